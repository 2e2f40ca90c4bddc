/- Part. -/
import Derived.Test.YtfophhmfbofjiaaGreatP9x04
import Derived.Lib.Bytealg
section
set_option linter.unusedVariables false
set_option linter.unusedSimpArgs false
set_option maxRecDepth 10000
namespace Go.Gp.Gb
open Geo
theorem cross_box {al be ga de a b c d M N:Int} (h1:al-be=de-ga) (h2:al*d-be*c=de*a-ga*b) (h3:al*be<0) (h4:ga*de<0) (ha:a≤M) (hb:b≤M) (hc:N≤c) (hd:N≤d):N≤M:=by
 apply Classical.byContradiction
 intro hn
 have sg:∀ x y:Int,x*y<0→(0<x∧y<0)∨(x<0∧0<y):=fun x y h=>by
  rcases Int.lt_trichotomy x 0 with hx | hx | hx
  ·rcases Int.lt_trichotomy y 0 with hy | hy | hy
   ·have:=Int.mul_pos_of_neg_of_neg hx hy;omega
   ·rw [hy] at h;simp at h
   ·exact .inr ⟨hx,hy⟩
  ·rw [hx] at h;simp at h
  ·rcases Int.lt_trichotomy y 0 with hy | hy | hy
   ·exact .inl ⟨hx,hy⟩
   ·rw [hy] at h;simp at h
   ·have:=Int.mul_pos hx hy;omega
 have e:al*(d-N)+(-be)*(c-N)+de*(M-a)+(-ga)*(M-b)=(al-be)*(M-N):=by grind
 rcases sg _ _ h3 with ⟨k1,k2⟩ | ⟨k1,k2⟩
 ·have hp:0<de-ga:=by omega
  have k3:0<de∧ga<0:=by rcases sg _ _ h4 with k | k<;>omega
  have n1:=Int.mul_nonneg (show 0≤al by omega) (show 0≤d-N by omega)
  have n2:=Int.mul_nonneg (show 0≤-be by omega) (show 0≤c-N by omega)
  have n3:=Int.mul_nonneg (show 0≤de by omega) (show 0≤M-a by omega)
  have n4:=Int.mul_nonneg (show 0≤-ga by omega) (show 0≤M-b by omega)
  have:=Int.mul_neg_of_pos_of_neg (show 0<al-be by omega) (show M-N<0 by omega)
  omega
 ·have hp:de-ga<0:=by omega
  have k3:de<0∧0<ga:=by rcases sg _ _ h4 with k | k<;>omega
  have n1:=Int.mul_nonpos_of_nonpos_of_nonneg (show al≤0 by omega) (show 0≤d-N by omega)
  have n2:=Int.mul_nonpos_of_nonpos_of_nonneg (show -be≤0 by omega) (show 0≤c-N by omega)
  have n3:=Int.mul_nonpos_of_nonpos_of_nonneg (show de≤0 by omega) (show 0≤M-a by omega)
  have n4:=Int.mul_nonpos_of_nonpos_of_nonneg (show -ga≤0 by omega) (show 0≤M-b by omega)
  have:=Int.mul_pos_of_neg_of_neg (show al-be<0 by omega) (show M-N<0 by omega)
  omega
def bx (a b:Int):Vt:=⟨if b<a then b else a,if a<b then b else a⟩
def mkI (i:Nat) (s:Segment):Jw:=⟨(i:Int),s,bx s.A.X s.B.X,bx s.A.Y s.B.Y⟩
theorem bx_in {a b p:Int}:(bx a b).low≤p∧p≤(bx a b).high↔a≤p∧p≤b∨b≤p∧p≤a:=by
 unfold bx;dsimp only;split<;>split<;>omega
theorem box_one {s t:Segment} {n:Int} (h:MeetsR s t n) (hn:n≠0):(bx s.A.X s.B.X).low≤(bx t.A.X t.B.X).high∧(bx s.A.Y s.B.Y).low≤(bx t.A.Y t.B.Y).high:=by
 have com:∀ p,Com s t p→(bx s.A.X s.B.X).low≤(bx t.A.X t.B.X).high∧(bx s.A.Y s.B.Y).low≤(bx t.A.Y t.B.Y).high:=fun p hp=>by
  have h1:=hp.2.1.1
  have h2:=hp.2.2.1
  have a1:=bx_in.2 h1.1
  have a2:=bx_in.2 h2.1
  have b1:=bx_in.2 h1.2
  have b2:=bx_in.2 h2.2
  omega
 cases h with
 | far=>exact absurd rfl hn
 | none=>exact absurd rfl hn
 | same _ h=>
  have hA:On s s.A:=on_A s
  have hB:On t s.A:=by
   rcases h with ⟨h,_⟩ | ⟨h,_⟩
   ·rw [h];exact on_A t
   ·rw [h];exact on_B t
  have a1:=bx_in.2 hA.1.1
  have a2:=bx_in.2 hB.1.1
  have b1:=bx_in.2 hA.1.2
  have b2:=bx_in.2 hB.1.2
  omega
 | over _ _ p _ _ hp _=>exact com p hp
 | end_ _ _ p hp=>exact com p hp
 | touch _ _ p hp=>exact com p hp
 | cross _ _ _ c=>
  have hd:=crs_diff s.A s.B t.A t.B
  have cp:=cross_point s.A s.B t.A t.B
  have lo:∀ x y:Int,(bx x y).low≤x∧(bx x y).low≤y∧x≤(bx x y).high∧y≤(bx x y).high:=fun x y=>by
   unfold bx;dsimp only;split<;>split<;>omega
  have hd':crs t.A t.B s.A-crs t.A t.B s.B=crs s.A s.B t.B-crs s.A s.B t.A:=by omega
  have cp2:=cross_point t.A t.B s.A s.B
  refine ⟨cross_box (al:=crs t.A t.B s.A) (be:=crs t.A t.B s.B) (ga:=crs s.A s.B t.A) (de:=crs s.A s.B t.B) (a:=t.A.X) (b:=t.B.X) (c:=s.A.X) (d:=s.B.X) hd' cp2.1 c.2 c.1 (lo _ _).2.2.1 (lo _ _).2.2.2 (lo _ _).1 (lo _ _).2.1,cross_box (al:=crs t.A t.B s.A) (be:=crs t.A t.B s.B) (ga:=crs s.A s.B t.A) (de:=crs s.A s.B t.B) (a:=t.A.Y) (b:=t.B.Y) (c:=s.A.Y) (d:=s.B.Y) hd' cp2.2 c.2 c.1 (lo _ _).2.2.1 (lo _ _).2.2.2 (lo _ _).1 (lo _ _).2.1⟩
theorem index_b {s:List Jw} (hs:s.length≤20000) {c:Jw} {Q:Int→Prop} (h0:(∀ u∈s,¬ u.x.high<c.x.low)→Q (-1)) (h1:∀ (i:Nat) (hi:i<s.length),(∀ u∈s.take i,¬ u.x.high<c.x.low)→s[i].x.high<c.x.low→Q (i:Int)):Ja.F s c Q:=by
 refine W.up1 s.length (fun i=>∀ u∈s.take i,¬ u.x.high<c.x.low) (by simp) (fun K i hi hI hK=>?_)
 refine W.dec_i (fun hlt=>W.req_i ⟨by omega,hlt⟩ (W.bind_i ?_)) (fun hge=>?_)
 ·have hi':i<s.length:=by omega
  refine W.dec_i (fun h=>h1 i hi' hI (by rw [rd_nat hi'] at h;exact h)) (fun h=>?_)
  rw [rd_nat hi'] at h
  rw [w64_succ (by omega)]
  refine hK hi' fun u hu=>?_
  rw [List.take_add_one,List.getElem?_eq_getElem hi'] at hu
  rcases List.mem_append.1 hu with hu | hu
  ·exact hI u hu
  ·simp only [Option.toList_some,List.mem_singleton] at hu
   subst hu;exact h
 ·have:i=s.length:=by omega
  subst this
  rw [List.take_length] at hI
  exact h0 hI
def keepI (c:Jw) (u:Jw):Bool:=!(decide (u.x.high<c.x.low))
theorem delete_b {s:List Jw} (hs:s.length≤20000) {c:Jw} {Q:List Jw→Prop} (hq:Q (s.filter (keepI c))):vv.F s c Q:=by
 refine W.bind_i (index_b hs (fun h=>?_) (fun i0 hi0 h hp0=>?_))
 ·rw [List.filter_eq_self.2 (fun u hu=>by unfold keepI;simpa using h u hu)] at hq
  exact hq
 ·refine W.ite_i (fun k=>by rw [beq_iff_eq] at k;omega) (fun _=>?_)
  rw [w64_succ (by omega)]
  refine W.loop3 (fun (x:List Jw) (i j:Int)=>∃ (F G R:List Jw) (b:Nat),x=F++G++R∧i=(F.length:Int)∧j=(b:Int)∧b=F.length+G.length∧s=s.take b++R∧F=(s.take b).filter (keepI c)∧b≤s.length) (fun x i j=>s.length-j.toNat) ?_ ?_
  ·rintro K x i j ⟨F,G,R,b,rfl,rfl,rfl,hb,hR,hF,hbl⟩ hk
   have hRl:R.length=s.length-b:=by
    have:=congrArg List.length hR
    rw [List.length_append,List.length_take] at this;omega
   have hxl:((F++G++R).length:Int)=(s.length:Int):=by simp;omega
   refine W.dec_i (fun hlt=>?_) (fun hge=>?_)
   ·match R,hRl,hR,hlt,hxl with
    | [],e,_,hlt,hxl=>simp at e;rw [hxl] at hlt;omega
    | t::R,e,hR,hlt,hxl=>
     have hr:rd Jz (F++G++t::R) (b:Int)=t:=rd_mid (by simp;omega)
     have hb1:b<s.length:=by rw [hxl] at hlt;omega
     have htk:s.take (b+1)=s.take b++[t]:=by
      have h1:s[b]?=some t:=by
       rw [hR,List.getElem?_append_right (by simp;omega)]
       simp
       rw [show b-min b s.length=0 by omega]
       simp
      rw [List.take_add_one,h1];rfl
     have hR':s=s.take (b+1)++R:=by rw [htk];simpa using hR
     rw [hr]
     refine W.req_i ⟨by omega,hlt⟩ (W.req_i ⟨by omega,hlt⟩ (W.bind_i ?_))
     rw [w64_succ (i:=b) (by omega)]
     refine W.ite_i (fun hp=>?_) (fun hp=>?_)
     ·refine W.req_i ⟨by omega,by rw [hxl];omega⟩ (W.req_i ⟨by omega,by rw [hxl];omega⟩ ?_)
      rw [w64_succ (i:=F.length) (by omega)]
      have hF':F++[t]=(s.take (b+1)).filter (keepI c):=by
       rw [htk,List.filter_append,hF]
       congr 1
       rw [List.filter_cons_of_pos (by exact hp)];rfl
      match G,hb with
      | [],hb=>
       refine hk _ _ _ ⟨F++[t],[],R,b+1,?_,by simp,rfl,by simp at hb ⊢;omega,hR',hF',by omega⟩ (by omega)
       rw [show ((F.length:Nat):Int).toNat=F.length by omega]
       simp
      | g::G,hb=>
       refine hk _ _ _ ⟨F++[t],G++[t],R,b+1,?_,by simp,rfl,by simp at hb ⊢;omega,hR',hF',by omega⟩ (by omega)
       rw [show ((F.length:Nat):Int).toNat=F.length by omega]
       simp
     ·refine hk _ _ _ ⟨F,G++[t],R,b+1,by simp,rfl,rfl,by simp;omega,hR',?_,by omega⟩ (by omega)
      rw [htk,List.filter_append,hF,List.filter_cons_of_neg (by rw [Bool.not_eq_true];exact hp)]
      simp
   ·have hbs:b=s.length:=by rw [hxl] at hge;omega
    subst hbs
    rw [List.take_length] at hF
    have e1:((F.length:Nat):Int).toNat=F.length:=by omega
    have hRn:R=[]:=List.length_eq_zero_iff.1 (by omega)
    subst hRn
    have et:(F++G++([]:List Jw)).take F.length=F:=by simp
    have fin:∀ Z:List Jw,(F++Z).take F.length=F:=fun Z=>by simp
    show vv.c1 _ _ Q
    unfold vv.c1
    rw [e1,et]
    refine W.req_i ⟨by omega,by simp;omega⟩ (W.req_i (Nat.le_refl _) (W.req_i ⟨by omega,by simp;omega⟩ (W.req_i (by simp) ?_)))
    show Q _
    rw [fin,hF];exact hq
  ·have hq1:s.take (i0+1)=s.take i0++[s[i0]]:=by rw [List.take_add_one,List.getElem?_eq_getElem hi0];rfl
   have hp:¬ keepI c s[i0]=true:=by unfold keepI;simpa using hp0
   refine ⟨s.take i0,[s[i0]],s.drop (i0+1),i0+1,?_,by simp;omega,rfl,by simp;omega,by simp,?_,by omega⟩
   ·rw [← hq1];simp
   ·rw [hq1,List.filter_append,List.filter_cons_of_neg hp,List.filter_eq_self.2 (fun u hu=>by unfold keepI;simpa using h u hu)];simp
theorem or_b {a b:Int} {Q:Int→Prop} (hq:Q (if a≠0 then a else b)):Vy.F ([a,b]:List Int) Q:=by
 refine ⟨3,?_⟩
 change Vy.l1 ([a,b]:List Int) Vy.c1 (W.iter1 (Vy.l1 ([a,b]:List Int) Vy.c1) 2) 0 _
 refine W.dec_i (fun _=>W.req_i ⟨by decide,by simp⟩ (W.ite_i (fun h=>?_) (fun h=>?_))) (fun k=>by simp at k)
 ·have h:a≠0:=by simpa [rd] using h
  rw [if_pos h] at hq;exact hq
 ·have h:¬ a≠0:=by simpa [rd] using h
  rw [if_neg h] at hq
  change Vy.l1 ([a,b]:List Int) Vy.c1 (W.iter1 (Vy.l1 ([a,b]:List Int) Vy.c1) 1) (w64 (0+1)) _
  refine W.dec_i (fun _=>W.req_i ⟨by simp [w64_id],by simp [w64_id]⟩ (W.ite_i (fun h2=>?_) (fun h2=>?_))) (fun k=>by simp [w64_id] at k)
  ·exact hq
  ·have h2:b=0:=by simpa [rd,w64_id] using h2
   subst h2
   change Vy.l1 ([a,0]:List Int) Vy.c1 (W.iter1 (Vy.l1 ([a,0]:List Int) Vy.c1) 0) (w64 (w64 (0+1)+1)) _
   exact W.dec_i (fun k=>by simp [w64_id] at k) (fun _=>hq)
def cfI (a b:Jw):Int:=if a.x.low<b.x.low then -1 else if b.x.low<a.x.low then 1 else a.index-b.index
def cfM (a b:Meet):Int:=if a.A-b.A≠0 then a.A-b.A else a.B-b.B
theorem cfI_ok (xs:List Jw):SWOn cfI xs:={
 irrefl:=fun x _=>by unfold cfI;split<;>(try split)<;>omega
 trans:=fun x y z _ _ _=>by
  unfold cfI
  split<;>(try split)<;>(try split)<;>(try split)<;>(try split)<;>(try split)<;>omega
 ntrans:=fun x y z _ _ _=>by
  unfold cfI
  split<;>(try split)<;>(try split)<;>(try split)<;>(try split)<;>(try split)<;>omega }
theorem cfM_ok (xs:List Meet):SWOn cfM xs:={
 irrefl:=fun x _=>by unfold cfM;split<;>omega
 trans:=fun x y z _ _ _=>by
  unfold cfM
  split<;>split<;>split<;>omega
 ntrans:=fun x y z _ _ _=>by
  unfold cfM
  split<;>split<;>split<;>omega }
theorem cmpI_b {a b:Jw} (ha:0≤a.index∧a.index≤20000) (hb:0≤b.index∧b.index≤20000):ja9.F a b (fun r=>r=cfI a b):=by
 refine W.bind_i (cmpi_b (W.bind_i (or_b ?_)))
 rw [w64_id (by omega) (by omega)]
 show (if _≠0 then _ else _)=cfI a b
 unfold cfI
 by_cases h1:a.x.low<b.x.low
 ·rw [if_pos h1];simp [h1]
 ·rw [if_neg h1]
  by_cases h2:b.x.low<a.x.low
  ·rw [if_pos h2];simp [h1,h2]
  ·rw [if_neg h2];simp [h1,h2]
theorem cmpM_b {a b:Meet} (ha:0≤a.A∧a.A≤20000∧0≤a.B∧a.B≤20000) (hb:0≤b.A∧b.A≤20000∧0≤b.B∧b.B≤20000):jb0.F a b (fun r=>r=cfM a b):=by
 refine W.bind_i (or_b ?_)
 rw [w64_id (x:=a.A-b.A) (by omega) (by omega),w64_id (x:=a.B-b.B) (by omega) (by omega)]
 rfl
abbrev sx (l:List Segment) (i:Nat):Segment:=rd zSegment l (i:Int)
abbrev it (l:List Segment) (i:Nat):Jw:=mkI i (sx l i)
def Ent (l:List Segment) (e:Meet):Prop:=∃ i j:Nat,i<j∧j<l.length∧e.A=(i:Int)∧e.B=(j:Int)∧MeetsR (sx l i) (sx l j) e.Kind∧e.Kind≠0
def entOf (a b:Int) (k:Int):Meet:=⟨(if b<a then b else a),(if a<b then b else a),k⟩
theorem ent_of {l:List Segment} {i j:Nat} {k:Int} (hij:i≠j) (hi:i<l.length) (hj:j<l.length) (h:MeetsR (sx l i) (sx l j) k) (hk:k≠0):Ent l (entOf (i:Int) (j:Int) k):=by
 unfold entOf
 by_cases c:i<j
 ·exact ⟨i,j,c,hj,by dsimp only;rw [if_neg (by omega)],by dsimp only;rw [if_pos (by omega)],h,hk⟩
 ·exact ⟨j,i,by omega,hi,by dsimp only;rw [if_pos (by omega)],by dsimp only;rw [if_neg (by omega)],h.symm,hk⟩
theorem sweep_l2 {l ys act:_} {t:Jw} {p:Nat} (hl:l.length≤20000) (hact:act.length≤20000) (hr:rd Jz ys (p:Int)=t) (hp:p<ys.length) {it0:Nat} (ht:it0<l.length∧t=it l it0) (hu:∀ u∈act,∃ j,j<l.length∧j≠it0∧u=it l j) {M0:List Meet} (hM:M0.length≤500000000) {K:List Meet→W ((List Meet)×Int)} {Q:(List Meet)×Int→Prop} (hq:∀ M,M.length≤M0.length+20000→(∀ e∈M,e∈M0∨Ent l e)→(∀ e∈M0,e∈M)→(∀ j,j<l.length→it l j∈act→∀ k,MeetsR (sx l it0) (sx l j) k→k≠0→entOf (it0:Int) (j:Int) k∈M)→K M Q):(W.ex fun n=>W.iter2 (Ve.l2 ys (p:Int) act K) n M0 (0:Int)) Q:=by
 obtain ⟨ht1,rfl⟩:=ht
 refine W.up2 act.length (fun q M=>M.length≤M0.length+q∧(∀ e∈M,e∈M0∨Ent l e)∧(∀ e∈M0,e∈M)∧(∀ j,j<l.length→it l j∈act.take q→∀ k,MeetsR (sx l it0) (sx l j) k→k≠0→entOf (it0:Int) (j:Int) k∈M)) ⟨by omega,fun e he=>.inl he,fun e he=>he,fun j hj hm=>by simp at hm⟩ (fun K2 q M hq' hI hK=>?_)
 obtain ⟨i1,i2,i3,i4⟩:=hI
 refine W.dec_i (fun hlt=>?_) (fun hge=>?_)
 ·have hqa:q<act.length:=by omega
  rw [rd_nat hqa,hr]
  obtain ⟨j0,hj0,hne,eu⟩:=hu _ (List.getElem_mem hqa)
  rw [eu]
  have htk:act.take (q+1)=act.take q++[it l j0]:=by rw [List.take_add_one,List.getElem?_eq_getElem hqa,eu];rfl
  have inj:∀ j,it l j=it l j0→j=j0:=fun j h=>by
   have:=congrArg Jw.index h
   have:(j:Int)=(j0:Int):=this
   omega
  have keep:(∀ k,MeetsR (sx l it0) (sx l j0) k→k=0)→K2 M (w64 ((q:Int)+1)) Q:=fun hno=>by
   rw [w64_succ (by omega)]
   refine hK hqa M ⟨by omega,i2,i3,fun j hj hm k hk hk0=>?_⟩
   rw [htk] at hm
   rcases List.mem_append.1 hm with hm | hm
   ·exact i4 j hj hm k hk hk0
   ·rw [List.mem_singleton] at hm
    have:=inj j hm
    subst this
    exact absurd (hno k hk) hk0
  refine W.req_i ⟨by omega,by omega⟩ (W.req_i ⟨by omega,hlt⟩ (W.bind_i ?_))
  refine W.ite_i (fun hb=>keep fun k hk=>?_) (fun hb=>W.bind_i (meets_b fun k hk=>W.ite_i (fun hk0=>?_) (fun hk0=>keep fun k' hk'=>?_)))
  ·apply Classical.byContradiction
   intro hk0
   have b1:=(box_one hk hk0).2
   have b2:=(box_one hk.symm hk0).2
   rw [Bool.not_eq_true',Bool.and_eq_false_iff,decide_eq_false_iff_not,decide_eq_false_iff_not] at hb
   rcases hb with hb | hb
   ·exact hb b1
   ·exact hb b2
  ·rw [bne_iff_ne] at hk0
   refine W.req_i (by simp;omega) ?_
   rw [w64_succ (by omega)]
   have he:Ent l (entOf (it0:Int) (j0:Int) k):=ent_of (fun h=>hne h.symm) ht1 hj0 hk hk0
   refine hK hqa _ ⟨by simp;omega,fun e hm=>?_,fun e hm=>List.mem_append_left _ (i3 e hm),fun j hj hm k' hk' hk0'=>?_⟩
   ·rcases List.mem_append.1 hm with hm | hm
    ·exact i2 e hm
    ·rw [List.mem_singleton] at hm
     right;rw [hm];exact he
   ·rw [htk] at hm
    rcases List.mem_append.1 hm with hm | hm
    ·exact List.mem_append_left _ (i4 j hj hm k' hk' hk0')
    ·rw [List.mem_singleton] at hm
     have:=inj j hm
     subst this
     have ek:=hk'.unique hk
     subst ek
     exact List.mem_append_right _ (List.mem_singleton.2 rfl)
  ·rw [bne_eq_false_iff_eq] at hk0
   exact (hk'.unique hk).trans hk0
 ·have:q=act.length:=by omega
  subst this
  rw [List.take_length] at i4
  exact hq M (by omega) i2 i3 i4
theorem two_in {I:List Nat} {i j:Nat} (hi:i∈I) (hj:j∈I) (hij:i≠j):∃ A c B,I=A++c::B∧(c=i∧j∈A∨c=j∧i∈A):=by
 obtain ⟨A,B,rfl⟩:=List.append_of_mem hj
 rcases List.mem_append.1 hi with h | h
 ·exact ⟨A,j,B,rfl,.inr ⟨rfl,h⟩⟩
 ·rcases List.mem_cons.1 h with h | h
  ·exact absurd h hij
  ·obtain ⟨B1,B2,rfl⟩:=List.append_of_mem h
   exact ⟨A++j::B1,i,B2,by simp,.inl ⟨rfl,by simp⟩⟩
theorem split_eq {α:Type} {A A' B B':List α} {c c':α} (h:A++c::B=A'++c'::B') (hl:A.length=A'.length):A=A'∧c=c'∧B=B':=by
 have:=List.append_inj h hl
 obtain ⟨h1,h2⟩:=this
 injection h2 with h2 h3
 exact ⟨h1,h2,h3⟩
theorem sweep_run {l:List Segment} (hl:l.length≤20000) {I:List Nat} (hI:I.Perm (List.range l.length)) (hs:(I.map (it l)).Pairwise (fun a b=>a.x.low≤b.x.low)) {Q:(List Meet)×Int→Prop} (hq:∀ R:List Meet,(∀ e∈R,Ent l e)→(∀ (i j:Nat) (k:Int),i<j→j<l.length→MeetsR (sx l i) (sx l j) k→k≠0→(⟨(i:Int),(j:Int),k⟩:Meet)∈R)→R.length≤500000000→Q (R,0)):(W.ex fun n=>W.iter3 (Ve.l1 (I.map (it l)) Ve.c2) n ([]:List Meet) ([]:List Jw) (0:Int)) Q:=by
 have hIl:I.length=l.length:=by rw [hI.length_eq];simp
 have hmem:∀ j,j∈I↔j<l.length:=fun j=>by rw [hI.mem_iff];simp
 have hnd:I.Nodup:=hI.nodup_iff.2 List.nodup_range
 refine W.up3 I.length (fun p M act=>act.length≤p∧(∀ u∈act,∃ j,j∈I.take p∧u=it l j)∧(∀ j∈I.take p,it l j∉act→∀ j'∈I.drop p,(it l j).x.high<(it l j').x.low)∧M.length≤20000*p∧(∀ e∈M,Ent l e)∧(∀ A c B,I=A++c::B→A.length<p→∀ j∈A,∀ k,MeetsR (sx l c) (sx l j) k→k≠0→entOf (c:Int) (j:Int) k∈M)) ⟨by simp,by simp,by simp,by simp,by simp,fun A c B _ h=>by omega⟩ (fun K p M act hp hInv hK=>?_)
 obtain ⟨a1,a2,a3,m1,m2,m3⟩:=hInv
 refine W.dec_i (fun hlt=>?_) (fun hge=>?_)
 ·have hpI:p<I.length:=by rw [List.length_map] at hlt;omega
  have eI:I=I.take p++I[p]::I.drop (p+1):=by simp
  have hdr:I.drop p=I[p]::I.drop (p+1):=by simp
  have htk:I.take (p+1)=I.take p++[I[p]]:=by rw [List.take_add_one,List.getElem?_eq_getElem hpI];rfl
  generalize hA:I.take p=A at *
  generalize hB:I.drop (p+1)=B at *
  generalize ht:I[p]=t at *
  have hAl:A.length=p:=by rw [← hA,List.length_take];omega
  have hrd:rd Jz (I.map (it l)) (p:Int)=it l t:=by
   rw [eI,List.map_append,List.map_cons];exact rd_mid (by simp [hAl])
  have htm:t<l.length:=(hmem t).1 (by rw [eI];simp)
  have hnd':=hnd
  rw [eI,List.nodup_append] at hnd'
  have hst:=hs
  rw [eI,List.map_append,List.map_cons,List.pairwise_append,List.pairwise_cons] at hst
  rw [hrd]
  refine W.req_i ⟨by omega,hlt⟩ (W.req_i ⟨by omega,hlt⟩ (W.bind_i (delete_b (by omega) ?_)))
  have hfl:(act.filter (keepI (it l t))).length≤p:=Nat.le_trans (List.length_filter_le _ _) a1
  have hact':∀ u∈act.filter (keepI (it l t)),∃ j,j∈A∧u=it l j:=fun u hu=>a2 u (List.mem_filter.1 hu).1
  have gone:∀ j∈A,it l j∉act.filter (keepI (it l t))→(it l j).x.high<(it l t).x.low:=fun j hj hn=>by
   by_cases hja:it l j∈act
   ·apply Classical.byContradiction
    intro hk
    exact hn (List.mem_filter.2 ⟨hja,by unfold keepI;simpa using hk⟩)
   ·exact a3 j hj hja t (by rw [hdr];simp)
  refine sweep_l2 hl (by omega) hrd (by rw [List.length_map];omega) ⟨htm,rfl⟩ (fun u hu=>?_) (by omega) (fun M' n1 n2 n3 n4=>?_)
  ·obtain ⟨j,hj,e⟩:=hact' u hu
   refine ⟨j,(hmem j).1 (by rw [eI];simp [hj]),?_,e⟩
   exact hnd'.2.2 j hj t (by simp)
  ·show Ve.c4 (I.map (it l)) (p:Int) (Ve.c3 (p:Int) K) (act.filter (keepI (it l t))) M' Q
   unfold Ve.c4
   rw [hrd]
   refine W.req_i (by simp only [List.length_cons,List.length_nil];omega) ?_
   show K M' _ (w64 ((p:Int)+1)) Q
   rw [w64_succ (by omega)]
   refine hK hpI _ _ ⟨by simp;omega,fun u hu=>?_,fun j hj hn j' hj'=>?_,by omega,fun e he=>?_,fun A' c B' hE hlen j hj k hk hk0=>?_⟩
   ·rw [htk]
    rcases List.mem_append.1 hu with hu | hu
    ·obtain ⟨j,hj,e⟩:=hact' u hu
     exact ⟨j,List.mem_append_left _ hj,e⟩
    ·exact ⟨t,by simp,List.mem_singleton.1 hu⟩
   ·rw [htk] at hj
    rcases List.mem_append.1 hj with hj | hj
    ·have:=gone j hj (fun h=>hn (List.mem_append_left _ h))
     have h2:=hst.2.1.1 (it l j') (List.mem_map_of_mem hj')
     omega
    ·rw [List.mem_singleton] at hj
     subst hj
     exact absurd (List.mem_append_right _ (List.mem_singleton.2 rfl)) hn
   ·rcases n2 e he with h | h
    ·exact m2 e h
    ·exact h
   ·by_cases hlp:A'.length<p
    ·exact n3 _ (m3 A' c B' hE hlp j hj k hk hk0)
    ·have:=split_eq (eI.symm.trans hE) (by omega)
     obtain ⟨rfl,rfl,rfl⟩:=this
     by_cases hja:it l j∈act.filter (keepI (it l t))
     ·exact n4 j ((hmem j).1 (by rw [eI];simp [hj])) hja k hk hk0
     ·have:=gone j hj hja
      have b1:=(box_one hk hk0).1
      have:(bx (sx l j).A.X (sx l j).B.X).high<(bx (sx l t).A.X (sx l t).B.X).low:=this
      omega
 ·have hpI:p=I.length:=by rw [List.length_map] at hge;omega
  subst hpI
  refine W.bind_i ⟨by omega,cfM,cfM_ok M,fun u v hu hv=>cmpM_b ?_ ?_,fun ys hys _=>?_⟩
  ·obtain ⟨i,j,h1,h2,h3,h4,_⟩:=m2 u hu
   omega
  ·obtain ⟨i,j,h1,h2,h3,h4,_⟩:=m2 v hv
   omega
  ·refine hq ys (fun e he=>m2 e (hys.mem_iff.1 he)) (fun i j k hij hj hk hk0=>hys.mem_iff.2 ?_) (by have:=hys.length_eq;omega)
   obtain ⟨A,c,B,hE,h⟩:=two_in ((hmem i).2 (by omega)) ((hmem j).2 hj) (by omega)
   have hlen:A.length<I.length:=by rw [hE];simp
   rcases h with ⟨rfl,h⟩ | ⟨rfl,h⟩
   ·have:=m3 A c B hE hlen j h k hk hk0
    unfold entOf at this
    rw [if_neg (by omega),if_pos (by omega)] at this
    exact this
   ·have:=m3 A c B hE hlen i h k hk.symm hk0
    unfold entOf at this
    rw [if_pos (by omega),if_neg (by omega)] at this
    exact this
theorem sweep_All_b {l:List Segment} (hl:l.length≤20000) {Q:(List Meet)×Int→Prop} (hq:∀ R:List Meet,(∀ e∈R,Ent l e)→(∀ (i j:Nat) (k:Int),i<j→j<l.length→MeetsR (sx l i) (sx l j) k→k≠0→(⟨(i:Int),(j:Int),k⟩:Meet)∈R)→R.length≤500000000→Q (R,0)):Ve.F l Q:=by
 refine W.dec_i (fun k=>by omega) (fun _=>W.req_i ⟨by omega,by omega,by omega⟩ ?_)
 refine W.up2 l.length (fun i x=>x=(List.range i).map (it l)++List.replicate (l.length-i) Jz) (by simp) (fun K i x hi hI hK=>?_)
 subst hI
 refine W.dec_i (fun hlt=>W.req_i ⟨by omega,hlt⟩ (W.bind_i (W.bind_i (W.req_i ⟨by omega,by simp;omega⟩ ?_)))) (fun hge=>?_)
 ·have hi':i<l.length:=by omega
  rw [w64_succ (by omega)]
  refine hK hi' _ ?_
  rw [show l.length-i=(l.length-(i+1))+1 by omega,List.replicate_succ,show ((i:Nat):Int).toNat=i by omega,set_mid _ _ _ _ (by simp),List.range_succ,List.map_append]
  simp only [List.map_cons,List.map_nil,List.append_assoc,List.cons_append,List.nil_append]
  rfl
 ·have:i=l.length:=by omega
  subst this
  rw [Nat.sub_self,List.replicate_zero,List.append_nil]
  have hbd:∀ u∈(List.range l.length).map (it l),∃ j,j<l.length∧u=it l j:=fun u hu=>by
   obtain ⟨j,hj,rfl⟩:=List.mem_map.1 hu
   exact ⟨j,by simpa using hj,rfl⟩
  refine W.bind_i ⟨by simp;omega,cfI,cfI_ok _,fun u v hu hv=>cmpI_b ?_ ?_,fun ys hys hp=>?_⟩
  ·obtain ⟨j,hj,rfl⟩:=hbd u hu
   show 0≤(j:Int)∧(j:Int)≤20000
   omega
  ·obtain ⟨j,hj,rfl⟩:=hbd v hv
   show 0≤(j:Int)∧(j:Int)≤20000
   omega
  ·have hy:ys=(ys.map fun u=>u.index.toNat).map (it l):=by
    rw [List.map_map]
    refine ((List.map_congr_left (g:=id) fun u hu=>?_).trans (List.map_id _)).symm
    obtain ⟨j,hj,rfl⟩:=hbd u (hys.mem_iff.1 hu)
    show it l ((j:Int)).toNat=it l j
    rw [show ((j:Nat):Int).toNat=j by omega]
   have hI:(ys.map fun u=>u.index.toNat).Perm (List.range l.length):=by
    refine (hys.map _).trans ?_
    rw [List.map_map,List.map_congr_left (g:=id) (fun j _=>?_),List.map_id]
    show ((j:Int)).toNat=j
    omega
   have hso:((ys.map fun u=>u.index.toNat).map (it l)).Pairwise (fun a b=>a.x.low≤b.x.low):=by
    rw [← hy]
    refine hp.imp fun {a b} h=>?_
    unfold cfI at h
    split at h<;>(try split at h)<;>omega
   have:=sweep_run hl hI hso hq
   rw [← hy] at this
   exact this
end Go.Gp.Gb
end
section
set_option linter.unusedVariables false
set_option linter.unusedSimpArgs false
set_option maxRecDepth 10000
namespace Go.Gp
theorem W.loop4 {A C D E R:Type} {B:(A→C→D→E→W R)→A→C→D→E→W R} {Q:R→Prop} (I:A→C→D→E→Prop) (m:A→C→D→E→Nat) (step:∀ K x u s r,I x u s r→(∀ y v t q,I y v t q→m y v t q<m x u s r→K y v t q Q)→B K x u s r Q) {x:A} {u:C} {s:D} {r:E} (h:I x u s r):(W.ex fun n=>W.iter4 B n x u s r) Q:=by
 have key:∀ n x u s r,I x u s r→m x u s r<n→W.iter4 B n x u s r Q:=by
  intro n
  induction n with
  | zero=>intro x u s r _ hm;omega
  | succ n ih=>intro x u s r hx hm;exact step _ x u s r hx fun y v t q hy hlt=>ih y v t q hy (by omega)
 exact ⟨m x u s r+1,key _ x u s r h (by omega)⟩
theorem mset_mem {κ ν:Type} [DecidableEq κ] {k:κ} {v:ν} {e:κ×ν}:∀ {m:List (κ×ν)},e∈mset k v m→e=(k,v)∨e∈m
 | [],h=>by simp [mset] at h;exact .inl h
 | (a,x)::m,h=>by
  simp only [mset] at h
  split at h
  ·rcases List.mem_cons.1 h with h | h
   ·exact .inl h
   ·exact .inr (List.mem_cons_of_mem _ h)
  ·rcases List.mem_cons.1 h with h | h
   ·exact .inr (by rw [h];simp)
   ·exact (mset_mem h).imp id (List.mem_cons_of_mem _)
theorem mset_len {κ ν:Type} [DecidableEq κ] {k:κ} {v:ν} {m:List (κ×ν)}:(mset k v m).length≤m.length+1:=by
 have:=congrArg List.length (keys_mset k v m)
 rw [List.length_map] at this
 rw [this]
 split<;>simp
theorem mset_key {κ ν:Type} [DecidableEq κ] {k k':κ} {v:ν} {m:List (κ×ν)}:k'∈(mset k v m).map (·.1)↔k'=k∨k'∈m.map (·.1):=by
 rw [keys_mset]
 split
 ·rename_i h
  constructor
  ·exact .inr
  ·rintro (rfl | h')
   ·exact h
   ·exact h'
 ·rw [List.mem_append,List.mem_singleton,or_comm]
theorem mset_nodup {κ ν:Type} [DecidableEq κ] {k:κ} {v:ν} {m:List (κ×ν)} (h:(m.map (·.1)).Nodup):((mset k v m).map (·.1)).Nodup:=by
 rw [keys_mset]
 split
 ·exact h
 ·rename_i hh
  rw [List.nodup_append]
  exact ⟨h,by simp,fun a ha b hb e=>by simp at hb;subst hb;subst e;exact hh ha⟩
end Go.Gp
namespace Go.Gp.Gb
open Geo
abbrev IK:=(Int×Int)×Int
structure Pairs (l:List Segment) (x:List IK):Prop where
 each:∀ e∈x,∃ i j:Nat,i<j∧j<l.length∧e.1=((i:Int),(j:Int))∧MeetsR (sx l i) (sx l j) e.2∧e.2≠0
 all:∀ (i j:Nat) (k:Int),i<j→j<l.length→MeetsR (sx l i) (sx l j) k→k≠0→∃ e∈x,e.1=((i:Int),(j:Int))
 len:x.length≤500000000
theorem rd_range {n i:Nat} (h:i<n):rd (0:Int) ((List.range n).map fun (i:Nat)=>(i:Int)) (i:Int)=(i:Int):=by
 rw [rd_nat (by simpa using h)];simp
theorem meets_m_b {l:List Segment} (hl:l.length≤20000) {Q:List IK→Prop} (hq:∀ x,Pairs l x→Q x):vu.F l ((List.range l.length).map fun (i:Nat)=>(i:Int)) ([]:List IK) Q:=by
 refine ⟨1,?_⟩
 refine W.loop4 (B:=vu.l5 l ((List.range l.length).map fun (i:Nat)=>(i:Int)) (vu.c1 (vu.Fn 0) l ((List.range l.length).map fun (i:Nat)=>(i:Int)) [])) (fun x lo hi t=>∃ i:Nat,i≤l.length∧t=(i:Int)∧x=l.take i) (fun x lo hi t=>l.length-t.toNat) (fun K x lo hi t hI hk=>?_) ⟨0,by omega,rfl,by simp⟩
 obtain ⟨i,hi',rfl,rfl⟩:=hI
 refine W.dec_i (fun hlt=>?_) (fun hge=>?_)
 ·have hil:i<l.length:=by simp at hlt;omega
  rw [rd_range hil]
  have next:∀ lo hi,K (l.take i++[sx l i]) lo hi (w64 ((i:Int)+1)) Q:=fun lo hi=>by
   rw [w64_succ (by omega)]
   refine hk _ _ _ _ ⟨i+1,hil,rfl,?_⟩ (by omega)
   rw [List.take_add_one,List.getElem?_eq_getElem hil,sx,rd_nat hil];rfl
  refine W.req_i ⟨by omega,hlt⟩ (W.req_i ⟨by omega,by omega⟩ (W.req_i (by simp;omega) (W.ite_same ?_ ?_)))
  ·show vu.c7 _ _ _ _ _ _ _ Q
   unfold vu.c7
   rw [rd_range hil]
   exact next _ _
  ·show vu.c7 _ _ _ _ _ _ _ Q
   unfold vu.c7
   rw [rd_range hil]
   exact next _ _
 ·have:i=l.length:=by simp at hge;omega
  subst this
  rw [List.take_length]
  refine W.dec_i (fun _=>W.bind_i (sweep_All_b hl fun R hR1 hR2 hR3=>?_)) (fun k=>by omega)
  refine W.up2 R.length (fun p x=>(∀ e∈x,∃ i j:Nat,i<j∧j<l.length∧e.1=((i:Int),(j:Int))∧MeetsR (sx l i) (sx l j) e.2∧e.2≠0)∧(∀ e∈R.take p,(e.A,e.B)∈x.map (·.1))∧x.length≤p) ⟨by simp,by simp,by simp⟩ (fun K2 p x hp hI hK2=>?_)
  obtain ⟨h1,h2,h3⟩:=hI
  refine W.dec_i (fun hlt=>?_) (fun hge2=>?_)
  ·have hpR:p<R.length:=by
    have:(p:Int)<(R.length:Int):=hlt
    omega
   have he:=hR1 _ (List.getElem_mem hpR)
   dsimp only
   rw [rd_nat hpR]
   have htk:R.take (p+1)=R.take p++[R[p]]:=by rw [List.take_add_one,List.getElem?_eq_getElem hpR];rfl
   generalize R[p]=e at *
   have he0:=he
   obtain ⟨i,j,hij,hj,eA,eB,hm,hk0⟩:=he
   rw [eA,eB,rd_range (by omega),rd_range hj]
   refine W.req_i ⟨by omega,hlt⟩ (W.req_i ⟨by omega,hlt⟩ (W.req_i ⟨by omega,by simp;omega⟩ (W.req_i ⟨by omega,by simp;omega⟩ ?_)))
   rw [w64_succ (by omega)]
   refine hK2 hpR _ ⟨fun e' he'=>?_,fun e' he'=>?_,?_⟩
   ·rcases mset_mem he' with rfl | he'
    ·exact ⟨i,j,hij,hj,rfl,hm,hk0⟩
    ·exact h1 e' he'
   ·rw [htk] at he'
    rw [mset_key]
    rcases List.mem_append.1 he' with he' | he'
    ·exact .inr (h2 e' he')
    ·rw [List.mem_singleton] at he'
     left;rw [he',eA,eB]
   ·have:=mset_len (k:=((i:Int),(j:Int))) (v:=e.Kind) (m:=x)
    omega
  ·have:p=R.length:=by
    have:¬ (p:Int)<(R.length:Int):=hge2
    omega
   subst this
   rw [List.take_length] at h2
   refine hq x ⟨h1,fun i j k hij hj hk' hk0=>?_,by omega⟩
   have:=h2 _ (hR2 i j k hij hj hk' hk0)
   obtain ⟨e,he,e1⟩:=List.mem_map.1 this
   exact ⟨e,he,e1⟩
structure Tm (t:List (Key×Bool)) (P:Key→Prop) (c:Nat):Prop where
 mem:∀ k,k∈t.map (·.1)↔P k
 nodup:(t.map (·.1)).Nodup
 len:t.length≤c
theorem Tm.note {t:List (Key×Bool)} {P:Key→Prop} {c:Nat} (h:Tm t P c) {a b:ByteArray} {P':Key→Prop} (hP:∀ k,P' k↔P k∨k=key a b) {c':Nat} (hc:c+1≤c'):Tm (mset (key a b) true t) P' c':=
 ⟨fun k=>by rw [mset_key,h.mem,hP,or_comm],mset_nodup h.nodup,by have:=mset_len (k:=key a b) (v:=true) (m:=t);have:=h.len;omega⟩
theorem Tm.mono {t:List (Key×Bool)} {P:Key→Prop} {c:Nat} (h:Tm t P c) {P':Key→Prop} (hP:∀ k,P' k↔P k) {c':Nat} (hc:c≤c'):Tm t P' c':=⟨fun k=>by rw [h.mem,hP],h.nodup,by have:=h.len;omega⟩
def Ends (L:List Key) (i:Nat):List ByteArray:=(L.take i).flatMap fun s=>[s.1,s.2]
structure AtM (m:Map) (S:List ByteArray) (x:List (Point×List ByteArray)):Prop where
 mem:∀ p id,id∈mget p [] x↔id∈S∧pos m id=p
 len:∀ p,(mget p [] x).length≤S.length
def K2 (m:Map) (S:List ByteArray) (k:Key):Prop:=∃ a∈S,∃ b∈S,a≠b∧pos m a=pos m b∧k=key a b
theorem key_comm (a b:ByteArray):key a b=key b a:=by
 unfold key
 rcases sLt_tri a b with h | h | h
 ·have:=sMin_lt h
  rw [this.1,this.2.1,this.2.2.1,this.2.2.2]
 ·subst h;rfl
 ·have:=sMin_lt h
  rw [this.1,this.2.1,this.2.2.1,this.2.2.2]
theorem check_step {m:Map} (h:MapOk m) {x0:List (ByteArray×Int)} (hx:AtIs m x0) {S:List ByteArray} (hS:S.length≤200000) {id:ByteArray} (hid:Nd m id) {x:List (Point×List ByteArray)} (hA:AtM m S x) {t:List (Key×Bool)} {c:Nat} (hT:Tm t (K2 m S) c) {L:List Key} {i:Nat} (hi:i<L.length) {j:Nat} (hj:j<2) (hidj:yh (kx L i) (j:Int)=id) {A:(List (Point×(List ByteArray)))→(List ((ByteArray×ByteArray)×Bool))→Int→W (List Violation)} {Kk:(List (Point×(List ByteArray)))→(List ((ByteArray×ByteArray)×Bool))→W (List Violation)} {Q:List Violation→Prop} (hq:∀ x' t',AtM m (S++[id]) x'→Tm t' (K2 m (S++[id])) (c+S.length)→A x' t' ((j+1:Nat):Int) Q):Jq.l7 (⟨m,x0⟩,true) (L.map (ln (owners m))) (i:Int) Kk A x t (j:Int) Q:=by
 have hnodes:(rd Vd (L.map (ln (owners m))) (i:Int)).nodes=kx L i:=by rw [rd_mapk hi];rfl
 unfold Jq.l7
 refine W.dec_i (fun _=>W.req_i ⟨by omega,by omega⟩ ?_) (fun k=>by omega)
 rw [hnodes,hidj]
 have hml:(mget (pos m id) [] x).length≤S.length:=hA.len _
 refine W.bind_i (point_b h hx hid (W.bind_i (contains_b (by omega) fun b hb=>?_)))
 have old:∀ k,id∈S→(K2 m (S++[id]) k↔K2 m S k):=fun k hin=>by
  unfold K2
  have:∀ a,a∈S++[id]↔a∈S:=fun a=>by
   rw [List.mem_append,List.mem_singleton]
   exact ⟨fun h=>h.elim _root_.id fun e=>e ▸ hin,.inl⟩
  simp only [this]
 refine W.ite_i (fun hf=>?_) (fun hf=>?_)
 ·rw [Bool.not_eq_true'] at hf
  have hnew:id∉S:=fun hin=>by rw [hb.2 ((hA.mem _ _).2 ⟨hin,rfl⟩)] at hf;cases hf
  refine W.up2 (mget (pos m id) [] x).length (fun q t'=>Tm t' (fun k=>K2 m S k∨∃ a∈(mget (pos m id) [] x).take q,k=key a id) (c+q)) (hT.mono (by simp) (by omega)) (fun K3 q t' hq' hI hK=>?_)
  refine W.dec_i (fun hlt=>?_) (fun hge=>?_)
  ·have hq2:q<(mget (pos m id) [] x).length:=by omega
   rw [hnodes,hidj,rd_nat hq2]
   refine W.req_i ⟨by omega,hlt⟩ (W.req_i ⟨by omega,hlt⟩ (W.bind_i ?_))
   show K3 (mset (key _ _) true t') _ Q
   rw [w64_succ (by omega)]
   refine hK hq2 _ (hI.note (fun k=>?_) (by omega))
   rw [List.take_add_one,List.getElem?_eq_getElem hq2]
   simp only [Option.toList_some,List.mem_append,List.mem_singleton]
   constructor
   ·rintro (k1 | ⟨a,ha | ha,e⟩)
    ·exact .inl (.inl k1)
    ·exact .inl (.inr ⟨a,ha,e⟩)
    ·exact .inr (ha ▸ e)
   ·rintro ((k1 | ⟨a,ha,e⟩) | e)
    ·exact .inl k1
    ·exact .inr ⟨a,.inl ha,e⟩
    ·exact .inr ⟨_,.inr rfl,e⟩
  ·have hql:q=(mget (pos m id) [] x).length:=by
    have:¬ (q:Int)<((mget (pos m id) [] x).length:Int):=hge
    omega
   subst hql
   rw [List.take_length] at hI
   show Jq.c9 _ _ _ _ _ _ _ Q
   unfold Jq.c9
   rw [hnodes,hidj]
   refine W.req_i (by simp only [List.length_cons,List.length_nil];omega) ?_
   show A _ _ (w64 ((j:Int)+1)) Q
   rw [w64_succ (by omega)]
   refine hq _ _ ⟨fun p id'=>?_,fun p=>?_⟩ (hI.mono (fun k=>?_) (by omega))
   ·rw [mget_mset,List.mem_append,List.mem_singleton]
    by_cases e:pos m id=p
    ·rw [if_pos e,List.mem_append,List.mem_singleton,hA.mem]
     subst e
     constructor
     ·rintro (k | rfl)
      ·exact ⟨.inl k.1,k.2⟩
      ·exact ⟨.inr rfl,rfl⟩
     ·rintro ⟨k | k,k2⟩
      ·exact .inl ⟨k,k2⟩
      ·exact .inr k
    ·rw [if_neg e,hA.mem]
     constructor
     ·exact fun k=>⟨.inl k.1,k.2⟩
     ·rintro ⟨k | rfl,k2⟩
      ·exact ⟨k,k2⟩
      ·exact absurd k2 e
   ·rw [mget_mset]
    have:=hA.len p
    split<;>simp<;>omega
   ·unfold K2
    constructor
    ·rintro ⟨a,ha,b,hb',hne,hp,e⟩
     rw [List.mem_append,List.mem_singleton] at ha hb'
     rcases ha with ha | rfl
     ·rcases hb' with hb' | rfl
      ·exact .inl ⟨a,ha,b,hb',hne,hp,e⟩
      ·exact .inr ⟨a,(hA.mem _ _).2 ⟨ha,hp⟩,e⟩
     ·rcases hb' with hb' | rfl
      ·exact .inr ⟨b,(hA.mem _ _).2 ⟨hb',hp.symm⟩,e.trans (key_comm _ _)⟩
      ·exact absurd rfl hne
    ·rintro (⟨a,ha,b,hb',hne,hp,e⟩ | ⟨a,ha,e⟩)
     ·exact ⟨a,List.mem_append_left _ ha,b,List.mem_append_left _ hb',hne,hp,e⟩
     ·have:=(hA.mem _ _).1 ha
      exact ⟨a,List.mem_append_left _ this.1,id,List.mem_append_right _ (by simp),fun e=>hnew (e ▸ this.1),this.2,e⟩
 ·rw [Bool.not_eq_false'] at hf
  have hin:id∈S:=((hA.mem _ _).1 (hb.1 hf)).1
  show A _ _ (w64 ((j:Int)+1)) Q
  rw [w64_succ (by omega)]
  refine hq _ _ ⟨fun p id'=>?_,fun p=>?_⟩ (hT.mono (fun k=>old k hin) (by omega))
  ·rw [hA.mem,List.mem_append,List.mem_singleton]
   constructor
   ·exact fun k=>⟨.inl k.1,k.2⟩
   ·rintro ⟨k | rfl,k2⟩
    ·exact ⟨k,k2⟩
    ·exact ⟨hin,k2⟩
  ·have:=hA.len p
   simp;omega
end Go.Gp.Gb
end
section
set_option linter.unusedVariables false
set_option linter.unusedSimpArgs false
set_option maxRecDepth 10000
namespace Go.Gp.Gb
open Geo
theorem flat_len {m:Map} (hr:∀ i:Nat,i<m.Objects.length→(ob m i).Refs.length≤12):∀ n,n≤m.Objects.length→((List.range n).flatMap fun i=>sides (ob m i)).length≤12*n
 | 0,_=>by simp
 | n+1,h=>by
  rw [List.range_succ,List.flatMap_append,List.length_append]
  have h1:=flat_len hr n (by omega)
  have h2:=sides_len (o:=ob m n)
  have h3:=hr n (by omega)
  simp only [List.flatMap_cons,List.flatMap_nil,List.append_nil]
  omega
theorem few_lines40 {m:Map} (hfew:FewP m 40) {L:List Key} (hL:Ks (owners m) L):L.length≤480:=by
 have hnd:L.Nodup:=hL.rise.imp fun h=>h.ne
 have:=List.Nodup.length_le_of_subset hnd (l₂:=(List.range m.Objects.length).flatMap fun i=>sides (ob m i)) (fun s hs=>by
  obtain ⟨a,ha⟩:=List.exists_mem_of_ne_nil _ ((hL.mem s).1 hs)
  obtain ⟨i,hi,_,_,h2⟩:=own_mem.1 ha
  exact List.mem_flatMap.2 ⟨i,by simpa using hi,h2⟩)
 have h2:=flat_len hfew.refs m.Objects.length (Nat.le_refl _)
 have h3:=hfew.few
 omega
theorem ends_succ {L:List Key} {i:Nat} (hi:i<L.length):Ends L (i+1)=Ends L i++[(kx L i).1,(kx L i).2]:=by
 unfold Ends
 rw [List.take_add_one,List.getElem?_eq_getElem hi,kx,rd_nat hi,List.flatMap_append]
 simp
theorem ends_len {L:List Key}:∀ i,(Ends L i).length≤2*i
 | 0=>by simp [Ends]
 | i+1=>by
  by_cases h:i<L.length
  ·rw [ends_succ h];have:=ends_len (L:=L) i;simp;omega
  ·have e:Ends L (i+1)=Ends L i:=by unfold Ends;rw [List.take_of_length_le (by omega),List.take_of_length_le (by omega)]
   rw [e];have:=ends_len (L:=L) i;omega
def E1 (m:Map) (L:List Key) (e:IK) (k:Key):Prop:=¬ (e.2=1∧ShareP (kx L e.1.1.toNat) (kx L e.1.2.toNat))∧∃ a∈owners m (kx L e.1.1.toNat),∃ b∈owners m (kx L e.1.2.toNat),k=key a b
theorem check_pairs {m:Map} (hf:m.Objects.length≤40) {s t:Key} {l10:List IK} {T:List (Key×Bool)} {P:Key→Prop} {c:Nat} (hT:Tm T P c) {A2:(List ((Int×Int)×Int))→(List ((ByteArray×ByteArray)×Bool))→W (List Violation)} {Q:List Violation→Prop} (hq:∀ T',Tm T' (fun k=>P k∨∃ a∈owners m s,∃ b∈owners m t,k=key a b) (c+1600)→A2 l10 T' Q):(W.ex fun n=>W.iter2 (Jq.l3 A2 l10 (ln (owners m) s) (ln (owners m) t)) n T (0:Int)) Q:=by
 have h1:(owners m s).length≤40:=Nat.le_trans own_len hf
 have h2:(owners m t).length≤40:=Nat.le_trans own_len hf
 refine W.up2 (owners m s).length (fun x T'=>Tm T' (fun k=>P k∨∃ a∈(owners m s).take x,∃ b∈owners m t,k=key a b) (c+40*x)) (hT.mono (by simp) (by omega)) (fun K x T' hx hI hK=>?_)
 refine W.dec_i (fun hlt=>W.req_i ⟨by omega,hlt⟩ ?_) (fun hge=>?_)
 ·have hx2:x<(owners m s).length:=by
   have:(x:Int)<((owners m s).length:Int):=hlt
   omega
  have ex:rd (⟨#[]⟩:ByteArray) (ln (owners m) s).owners (x:Int)=(owners m s)[x]:=rd_nat hx2
  refine W.up2 (owners m t).length (fun y T'=>Tm T' (fun k=>(P k∨∃ a∈(owners m s).take x,∃ b∈owners m t,k=key a b)∨∃ b∈(owners m t).take y,k=key (owners m s)[x] b) (c+40*x+y)) (hI.mono (by simp) (by omega)) (fun K2 y T2 hy hI2 hK2=>?_)
  refine W.dec_i (fun hlt2=>W.req_i ⟨by omega,hlt2⟩ (W.bind_i ?_)) (fun hge2=>?_)
  ·have hy2:y<(owners m t).length:=by
    have:(y:Int)<((owners m t).length:Int):=hlt2
    omega
   have ey:rd (⟨#[]⟩:ByteArray) (ln (owners m) t).owners (y:Int)=(owners m t)[y]:=rd_nat hy2
   rw [ex,ey]
   show K2 (mset (key _ _) true T2) _ Q
   rw [w64_succ (by omega)]
   refine hK2 hy2 _ (hI2.note (fun k=>?_) (by omega))
   rw [List.take_add_one,List.getElem?_eq_getElem hy2]
   simp only [Option.toList_some,List.mem_append,List.mem_singleton]
   constructor
   ·rintro (k1 | ⟨b,hb | hb,e⟩)
    ·exact .inl (.inl k1)
    ·exact .inl (.inr ⟨b,hb,e⟩)
    ·exact .inr (hb ▸ e)
   ·rintro ((k1 | ⟨b,hb,e⟩) | e)
    ·exact .inl k1
    ·exact .inr ⟨b,.inl hb,e⟩
    ·exact .inr ⟨_,.inr rfl,e⟩
  ·have hyl:y=(owners m t).length:=by
    have:¬ (y:Int)<((owners m t).length:Int):=hge2
    omega
   subst hyl
   rw [List.take_length] at hI2
   show K _ (w64 ((x:Int)+1)) Q
   rw [w64_succ (by omega)]
   refine hK hx2 _ (hI2.mono (fun k=>?_) (by omega))
   rw [List.take_add_one,List.getElem?_eq_getElem hx2]
   simp only [Option.toList_some,List.mem_append,List.mem_singleton]
   constructor
   ·rintro (k1 | ⟨a,ha | ha,h⟩)
    ·exact .inl (.inl k1)
    ·exact .inl (.inr ⟨a,ha,h⟩)
    ·exact .inr (ha ▸ h)
   ·rintro ((k1 | ⟨a,ha,h⟩) | h)
    ·exact .inl k1
    ·exact .inr ⟨a,.inl ha,h⟩
    ·exact .inr ⟨_,.inr rfl,h⟩
 ·have hxl:x=(owners m s).length:=by
   have:¬ (x:Int)<((owners m s).length:Int):=hge
   omega
  subst hxl
  rw [List.take_length] at hI
  exact hq T' (hI.mono (fun k=>Iff.rfl) (by omega))
theorem two_mem {a b c:ByteArray}:a∈([b,c]:List ByteArray)↔a=b∨a=c:=by simp
open Classical in
noncomputable def idk (k:Key):Ids:=if k.1=k.2 then [k.1] else [k.1,k.2]
theorem idk_inj {k k':Key} (h:idk k=idk k'):k=k':=by
 unfold idk at h
 by_cases c:k.1=k.2<;>by_cases c':k'.1=k'.2
 ·rw [if_pos c,if_pos c'] at h
  injection h with h
  exact Prod.ext h (c ▸ c' ▸ h)
 ·rw [if_pos c,if_neg c'] at h;simp at h
 ·rw [if_neg c,if_pos c'] at h;simp at h
 ·rw [if_neg c,if_neg c'] at h
  injection h with h h2
  injection h2 with h2
  exact Prod.ext h h2
theorem idk_key (a b:ByteArray):idk (key a b)=pr a b:=by
 unfold idk key pr
 rcases sLt_tri a b with h | h | h
 ·have:=sMin_lt h
  rw [this.1,this.2.1,if_neg (sLt_ne h)]
 ·subst h
  have h1:sMin a a=a:=(sMin_or a a).elim id id
  have h2:sMax a a=a:=(sMax_or a a).elim id id
  rw [h1,h2,if_pos rfl]
 ·have:=sMin_lt h
  rw [this.2.2.1,this.2.2.2,if_neg (sLt_ne h),if_neg (fun e=>sLt_ne h e.symm)]
theorem compact_b {k:Key} {Q:Ids→Prop} (hq:Q (idk k)):vt.F ([k.1,k.2]:List ByteArray) Q:=by
 unfold idk at hq
 refine W.dec_i (fun h=>by simp at h) (fun _=>⟨2,?_⟩)
 change vt.l1 ([k.1,k.2]:List ByteArray) _ (W.iter1 (vt.l1 ([k.1,k.2]:List ByteArray) (vt.c1 ([k.1,k.2]:List ByteArray))) 1) 1 _
 have e0:w64 ((1:Int)-1)=0:=by decide
 have r1:rd (⟨#[]⟩:ByteArray) ([k.1,k.2]:List ByteArray) 1=k.2:=rfl
 have r0:rd (⟨#[]⟩:ByteArray) ([k.1,k.2]:List ByteArray) 0=k.1:=rfl
 refine W.dec_i (fun _=>W.req_i ⟨by decide,by simp⟩ (W.req_i ⟨by decide,by rw [e0];simp⟩ (W.ite_i (fun h=>?_) (fun h=>?_)))) (fun k=>by simp at k)
 ·rw [e0,r1,r0,sEq_eq] at h
  rw [if_pos h.symm] at hq
  refine W.req_i ⟨by decide,by simp⟩ ⟨1,?_⟩
  change vt.l2 ([k.1,k.2]:List ByteArray) 1 _ _ ([k.1,k.2]:List ByteArray) 1 1 _
  refine W.dec_i (fun k=>by simp at k) (fun _=>?_)
  refine W.req_i ⟨by decide,by simp⟩ (W.req_i (Nat.le_refl _) (W.req_i ⟨by decide,by simp⟩ (W.req_i (by simp) ?_)))
  exact hq
 ·rw [e0,r1,r0,sEq_false] at h
  rw [if_neg (fun e=>h e.symm)] at hq
  change vt.l1 ([k.1,k.2]:List ByteArray) _ (W.iter1 (vt.l1 ([k.1,k.2]:List ByteArray) (vt.c1 ([k.1,k.2]:List ByteArray))) 0) (w64 (1+1)) _
  refine W.dec_i (fun k=>by simp [w64_id] at k) (fun _=>hq)
open Classical in
noncomputable def cfV (a b:Violation):Int:=if lLt a.Ids b.Ids then -1 else if lLt b.Ids a.Ids then 1 else 0
theorem cfV_neg {a b:Violation}:cfV a b<0↔lLt a.Ids b.Ids:=by
 unfold cfV
 split
 ·rename_i h;exact ⟨fun _=>h,fun _=>by decide⟩
 ·rename_i h;split<;>exact ⟨fun k=>by omega,fun k=>absurd k h⟩
theorem cfV_ok (xs:List Violation):SWOn cfV xs:={
 irrefl:=fun x _=>by rw [cfV_neg];exact lLt_irr _
 trans:=fun x y z _ _ _=>by rw [cfV_neg,cfV_neg,cfV_neg];exact lLt_trans _ _ _
 ntrans:=fun x y z _ _ _=>by
  rw [cfV_neg,cfV_neg,cfV_neg]
  intro h1 h2 h3
  rcases lLt_tri x.Ids y.Ids with k | k | k
  ·exact h1 k
  ·rw [k] at h3;exact h2 h3
  ·exact h2 (lLt_trans _ _ _ k h3) }
theorem cmpV_b {a b:Violation} (ha:a.Ids.length≤1000) (hb:b.Ids.length≤1000) {Q:Int→Prop} (hq:Q (cfV a b)):zi.F a b Q:=by
 refine W.bind_i ?_
 have q1:lLt a.Ids b.Ids→Q (-1):=fun h=>by unfold cfV at hq;rwa [if_pos h] at hq
 have q2:lLt b.Ids a.Ids→Q 1:=fun h=>by unfold cfV at hq;rwa [if_neg (fun k=>lLt_irr _ (lLt_trans _ _ _ h k)),if_pos h] at hq
 have q0:a.Ids=b.Ids→Q 0:=fun h=>by unfold cfV at hq;rwa [h,if_neg (lLt_irr _),if_neg (lLt_irr _)] at hq
 clear hq
 generalize a.Ids=u at *
 generalize b.Ids=v at *
 refine W.up1 u.length (fun i=>∃ P A B,u=P++A∧v=P++B∧P.length=i) ⟨[],u,v,rfl,rfl,rfl⟩ (fun K i hi hI hK=>?_)
 obtain ⟨P,A,B,rfl,rfl,rfl⟩:=hI
 rw [lLt_pre] at q1 q2
 have ea:(((P++A).length:Nat):Int)=P.length+A.length:=by simp
 have eb:(((P++B).length:Nat):Int)=P.length+B.length:=by simp
 have r0:∀ (x:ByteArray) (l:Ids),rd (⟨#[]⟩:ByteArray) (P++x::l) (P.length:Int)=x:=fun x l=>rd_mid rfl
 refine W.dec_i (fun h=>?_) (fun h=>?_)
 ·refine W.req_i ⟨by omega,h⟩ (W.dec_i (fun h2=>?_) (fun h2=>?_))
  ·match A,B,h,q2 with
   | [],_,h,_=>simp at h
   | x::A,[],h,q2=>exact q2 trivial
   | x::A,y::B,h,_=>simp at h2;omega
  ·match A,B,h,h2,q1,q2,ha,hb,hi,hK with
   | [],_,h,_,_,_,_,_,_,_=>simp at h
   | _::_,[],_,h2,_,_,_,_,_,_=>simp at h2
   | x::A,y::B,h,h2,q1,q2,ha,hb,hi,hK=>
    refine W.req_i ⟨by omega,by omega⟩ (W.bind_i (cmps_b ?_))
    rw [r0,r0]
    unfold cmpS
    rcases sLt_tri x y with c | c | c
    ·rw [if_pos c]
     exact q1 (.inl c)
    ·subst c
     rw [sLt_irr]
     refine W.ite_i (fun k=>by simp at k) (fun _=>?_)
     rw [w64_succ (by simp at ha;omega)]
     exact hK (by simp) ⟨P++[x],A,B,by simp,by simp,by simp⟩
    ·rw [sLt_asymm c,if_neg (by simp),if_pos c]
     exact q2 (.inl c)
 ·match A,B,h,q0,q1 with
  | x::A,_,h,_,_=>simp at h;omega
  | [],[],_,q0,_=>exact W.dec_i (fun k=>by simp at k) (fun _=>q0 rfl)
  | [],y::B,_,_,q1=>exact W.dec_i (fun _=>q1 trivial) (fun k=>by simp at k;omega)
theorem check_out {T:List (Key×Bool)} {P:Key→Prop} (hT:Tm T P 1400000000000) {Q:List Violation→Prop} (hq:∀ W:List Ids,W.Pairwise lLt→(∀ ids,ids∈W↔∃ k,P k∧ids=idk k)→W.length≤1400000000000→Q (W.map viol)):Jq.c3 T Q:=by
 have hTl:=hT.len
 refine W.loop2 (fun (a:List Violation) (r:List (Key×Bool))=>(a++r.map fun e=>viol (idk e.1)).Perm (T.map fun e=>viol (idk e.1))) (fun a r=>r.length) (fun K a r hP hK=>?_) (by simp)
 have hal:a.length+r.length=T.length:=by
  have:=hP.length_eq
  simpa using this
 refine ⟨fun hr=>?_,fun A e B hr=>?_⟩
 ·subst hr
  rw [List.map_nil,List.append_nil] at hP
  have hmem:∀ v,v∈a↔∃ k,P k∧v=viol (idk k):=fun v=>by
   rw [hP.mem_iff,List.mem_map]
   constructor
   ·rintro ⟨e,he,rfl⟩;exact ⟨e.1,(hT.mem _).1 (List.mem_map_of_mem he),rfl⟩
   ·rintro ⟨k,hk,rfl⟩
    obtain ⟨e,he,rfl⟩:=List.mem_map.1 ((hT.mem k).2 hk)
    exact ⟨e,he,rfl⟩
  have two:∀ k,(idk k).length≤2:=fun k=>by unfold idk;split<;>simp
  have hnd:(a.map (·.Ids)).Nodup:=by
   have h1:(a.map (·.Ids)).Perm ((T.map fun e=>viol (idk e.1)).map (·.Ids)):=hP.map _
   rw [h1.nodup_iff,List.map_map]
   have h2:=hT.nodup
   unfold List.Nodup at h2 ⊢
   rw [List.pairwise_map] at h2 ⊢
   exact h2.imp fun {x y} h e=>h (idk_inj e)
  refine W.bind_i ⟨by omega,cfV,cfV_ok a,fun u v hu hv=>?_,fun ys hys hp=>?_⟩
  ·obtain ⟨k,_,rfl⟩:=(hmem u).1 hu
   obtain ⟨k',_,rfl⟩:=(hmem v).1 hv
   have h1:=two k
   have h2:=two k'
   exact cmpV_b (by show (idk k).length≤1000;omega) (by show (idk k').length≤1000;omega) rfl
  ·have hyn:(ys.map (·.Ids)).Nodup:=((hys.map _).nodup_iff).2 hnd
   have hrise:(ys.map (·.Ids)).Pairwise lLt:=by
    rw [List.pairwise_map]
    have h1:ys.Pairwise (fun x y=>x.Ids≠y.Ids):=by
     have:=hyn
     unfold List.Nodup at this
     rwa [List.pairwise_map] at this
    refine (hp.and h1).imp fun {u v} hh=>?_
    rw [cfV_neg] at hh
    rcases lLt_tri u.Ids v.Ids with k | k | k
    ·exact k
    ·exact absurd k hh.2
    ·exact absurd k hh.1
   have:=hq (ys.map (·.Ids)) hrise (fun ids=>?_) (by rw [List.length_map,hys.length_eq];simp at hal;omega)
   ·have e:(ys.map (·.Ids)).map viol=ys:=by
     rw [List.map_map]
     refine (List.map_congr_left (g:=id) fun b hb=>?_).trans (List.map_id _)
     obtain ⟨k,_,rfl⟩:=(hmem b).1 (hys.mem_iff.1 hb)
     rfl
    rw [e] at this
    exact this
   ·rw [List.mem_map]
    constructor
    ·rintro ⟨b,hb,rfl⟩
     obtain ⟨k,hk,rfl⟩:=(hmem b).1 (hys.mem_iff.1 hb)
     exact ⟨k,hk,rfl⟩
    ·rintro ⟨k,hk,rfl⟩
     exact ⟨viol (idk k),hys.mem_iff.2 ((hmem _).2 ⟨k,hk,rfl⟩),rfl⟩
 ·subst hr
  refine W.req_i rfl (W.bind_i (compact_b (W.req_i ?_ ?_)))
  ·simp at hal ⊢;omega
  ·refine hK _ _ ?_ (by simp)
   refine List.Perm.trans ?_ hP
   rw [List.append_assoc]
   refine List.Perm.append_left a ?_
   rw [List.map_append,List.map_append,List.map_cons]
   show (viol (idk e.1)::((A.map fun e=>viol (idk e.1))++(B.map fun e=>viol (idk e.1)))).Perm _
   exact List.perm_middle.symm
def Pk (m:Map) (L:List Key) (x:List IK) (k:Key):Prop:=K2 m (Ends L L.length) k∨∃ e∈x,E1 m L e k
theorem mem_ends {L:List Key} {a:ByteArray}:a∈Ends L L.length↔∃ s∈L,a=s.1∨a=s.2:=by
 unfold Ends
 rw [List.take_length,List.mem_flatMap]
 simp
theorem sx_map {m:Map} {L:List Key} {i:Nat} (hi:i<L.length):sx (L.map (sg m)) i=sg m (kx L i):=rd_mapk hi
theorem pk_iff {m:Map} {L:List Key} (hL:Ks (owners m) L) {x:List IK} (hx:Pairs (L.map (sg m)) x) {ids:Ids}:(∃ k,Pk m L x k∧ids=idk k)↔BadI m ids:=by
 rw [bad_iff hL]
 constructor
 ·rintro ⟨k,⟨a,ha,b,hb,hne,hp,rfl⟩ | ⟨e,he,hE⟩,rfl⟩
  ·rw [idk_key]
   obtain ⟨s,hs,ha⟩:=mem_ends.1 ha
   obtain ⟨t,ht,hb⟩:=mem_ends.1 hb
   rw [← bad_iff hL]
   exact ⟨s,t,(hL.mem s).1 hs,(hL.mem t).1 ht,.inr ⟨a,ha,b,hb,hne,hp,rfl⟩⟩
  ·obtain ⟨i,j,hij,hj,e1,hm,hk0⟩:=hx.each e he
   rw [List.length_map] at hj
   rw [sx_map (by omega),sx_map hj] at hm
   unfold E1 at hE
   rw [e1] at hE
   simp only [Int.toNat_natCast] at hE
   obtain ⟨hn,a,ha,b,hb,rfl⟩:=hE
   rw [idk_key]
   refine ⟨j,hj,.inl ⟨i,hij,⟨_,hm.symm,fun k=>?_⟩,b,hb,a,ha,pr_comm a b⟩⟩
   rcases k with k | k
   ·exact hk0 k
   ·exact hn ⟨k.1,k.2.symm⟩
 ·rintro ⟨i,hi,⟨k,hk,h⟩ | ⟨k,hk,h⟩⟩
  ·obtain ⟨⟨n,hn,ho⟩,a,ha,b,hb,rfl⟩:=h
   have hn0:n≠0:=fun k=>ho (.inl k)
   have hn':MeetsR (sx (L.map (sg m)) k) (sx (L.map (sg m)) i) n:=by rw [sx_map (by omega),sx_map hi];exact hn.symm
   obtain ⟨e,he,e1⟩:=hx.all k i n hk (by rw [List.length_map];exact hi) hn' hn0
   refine ⟨key b a,.inr ⟨e,he,?_⟩,by rw [idk_key,pr_comm]⟩
   unfold E1
   rw [e1]
   simp only [Int.toNat_natCast]
   refine ⟨fun hs=>ho (.inr ⟨?_,hs.2.symm⟩),b,hb,a,ha,rfl⟩
   obtain ⟨i',j',hij,hj,e1',hm,hk0⟩:=hx.each e he
   rw [e1] at e1'
   injection e1' with u v
   have:i'=k:=by omega
   have:j'=i:=by omega
   subst i' j'
   exact (hn'.unique hm).trans hs.1
  ·obtain ⟨a,ha,b,hb,hne,hp,rfl⟩:=h
   exact ⟨key a b,.inl ⟨a,mem_ends.2 ⟨_,kx_mem hi,ha⟩,b,mem_ends.2 ⟨_,kx_mem (by omega),hb⟩,hne,hp,rfl⟩,(idk_key a b).symm⟩
theorem border_Check_b40 {m:Map} (hf:MapFit m) (hfew:FewP m 40) {Q:List Violation→Prop} (hn:¬ MapOk m→Q []) (hq:MapOk m→∀ W:List Ids,W.Pairwise lLt→(∀ ids,ids∈W↔BadI m ids)→W.length≤1400000000000→Q (W.map viol)):Jq.F m Q:=by
 refine W.bind_i (border_of_b hf (fun hno=>W.ite_i (fun _=>hn hno) (fun k=>by simp at k)) (fun h x0 hx0=>W.ite_i (fun k=>by simp at k) (fun _=>?_)))
 have hlen:m.Objects.length≤40:=by have:=hfew.few;omega
 refine W.bind_i (lines_b h hx0 fun L hL hll=>?_)
 have hl:=few_lines40 hfew hL
 have hnds:∀ i,i<L.length→Nd m (kx L i).1∧Nd m (kx L i).2:=fun i hi=>ks_nodes hL (kx_mem hi)
 refine W.up3 L.length (fun i x t=>AtM m (Ends L i) x∧Tm t (K2 m (Ends L i)) (4000*i)) ⟨⟨fun p id=>by simp [mget,Ends],fun p=>by simp [mget]⟩,⟨fun k=>by simp [K2,Ends],by simp,by simp⟩⟩ (fun K i x t hi hI hK=>?_)
 obtain ⟨hA,hT⟩:=hI
 refine W.dec_i (fun hlt=>W.req_i ⟨by omega,hlt⟩ (W.req_i ⟨by omega,hlt⟩ ?_)) (fun hge=>?_)
 ·rw [List.length_map] at hlt
  have hi':i<L.length:=by omega
  have hel:=ends_len (L:=L) i
  refine W.up3 2 (fun j x t=>AtM m (Ends L i++[(kx L i).1,(kx L i).2].take j) x∧Tm t (K2 m (Ends L i++[(kx L i).1,(kx L i).2].take j)) (4000*i+1000*j)) ⟨by simpa using hA,by simpa using hT⟩ (fun K2' j x t hj hI hK2=>?_)
  obtain ⟨hA,hT⟩:=hI
  by_cases hj2:j<2
  ·have hnd:Nd m (([(kx L i).1,(kx L i).2]:List ByteArray).getD j ⟨#[]⟩)∧yh (kx L i) (j:Int)=([(kx L i).1,(kx L i).2]:List ByteArray).getD j ⟨#[]⟩∧([(kx L i).1,(kx L i).2]:List ByteArray).take (j+1)=([(kx L i).1,(kx L i).2]:List ByteArray).take j++[([(kx L i).1,(kx L i).2]:List ByteArray).getD j ⟨#[]⟩]:=by
    rcases (show j=0∨j=1 by omega) with rfl | rfl
    ·exact ⟨(hnds i hi').1,rfl,rfl⟩
    ·exact ⟨(hnds i hi').2,rfl,rfl⟩
   have hSl:(Ends L i++[(kx L i).1,(kx L i).2].take j).length≤1000:=by
    rw [List.length_append,List.length_take];simp;omega
   refine check_step h hx0 (by omega) hnd.1 hA hT hi' hj2 hnd.2.1 fun x' t' hA' hT'=>?_
   refine hK2 hj2 _ _ ⟨?_,?_⟩
   ·rw [hnd.2.2,← List.append_assoc];exact hA'
   ·rw [hnd.2.2,← List.append_assoc];exact hT'.mono (fun k=>Iff.rfl) (by omega)
  ·have:j=2:=by omega
   subst this
   refine W.dec_i (fun k=>by omega) (fun _=>?_)
   show K x t (w64 ((i:Int)+1)) Q
   rw [w64_succ (by omega)]
   refine hK hi' _ _ ⟨?_,?_⟩
   ·rw [ends_succ hi'];exact hA
   ·rw [ends_succ hi'];exact hT.mono (fun k=>Iff.rfl) (by omega)
 ·rw [List.length_map] at hge
  have:i=L.length:=by omega
  subst this
  refine W.up2 L.length (fun i x=>x=(List.range i).map fun (i:Nat)=>(i:Int)) rfl (fun K2' i x hi hI hK2=>?_)
  subst hI
  refine W.dec_i (fun hlt=>?_) (fun hge2=>?_)
  ·rw [List.length_map] at hlt
   refine W.req_i (by simp;omega) ?_
   rw [w64_succ (by omega)]
   refine hK2 (by omega) _ ?_
   rw [List.range_succ,List.map_append];rfl
  ·rw [List.length_map] at hge2
   have:i=L.length:=by omega
   subst this
   refine W.bind_i (segments_b h hx0 hL hll (W.bind_i ?_))
   have hml:(L.map (sg m)).length=L.length:=by simp
   rw [show (List.range L.length).map (fun (i:Nat)=>(i:Int))=(List.range (L.map (sg m)).length).map (fun (i:Nat)=>(i:Int)) by rw [hml]]
   refine meets_m_b (by rw [hml];omega) fun R hR=>?_
   have hRl:=hR.len
   refine W.loop2 (fun (r:List IK) (t:List (Key×Bool))=>∃ D,(D++r).Perm R∧Tm t (fun k=>K2 m (Ends L L.length) k∨∃ e∈D,E1 m L e k) (4000*L.length+1600*D.length)) (fun r t=>r.length) (fun K3 r t hP hK3=>?_) ⟨[],by simp,hT.mono (by simp) (by simp)⟩
   obtain ⟨D,hP,hT3⟩:=hP
   have hDl:D.length+r.length=R.length:=by
    have:=hP.length_eq
    simpa using this
   refine ⟨fun hr=>?_,fun A e B hr=>?_⟩
   ·subst hr
    rw [List.append_nil] at hP
    show Jq.c3 t Q
    refine check_out (P:=Pk m L R) (hT3.mono (fun k=>?_) (by omega)) fun W h1 h2 h3=>hq h W h1 (fun ids=>by rw [h2,pk_iff hL hR]) h3
    unfold Pk
    simp only [hP.mem_iff]
   ·subst hr
    have heR:e∈R:=hP.mem_iff.1 (by simp)
    obtain ⟨i,j,hij,hj,e1,hm,hk0⟩:=hR.each e heR
    rw [hml] at hj
    have hperm:((D++[e])++(A++B)).Perm R:=by
     refine List.Perm.trans ?_ hP
     rw [List.append_assoc]
     refine List.Perm.append_left D ?_
     show (e::(A++B)).Perm _
     exact List.perm_middle.symm
    have hlim:∀ a:Nat,a<L.length→0≤(a:Int)∧(a:Int)<((L.map (ln (owners m))).length:Int):=fun a ha=>⟨by omega,by rw [List.length_map];omega⟩
    refine W.req_i rfl (W.req_i (by rw [e1];exact hlim i (by omega)) (W.req_i (by rw [e1];exact hlim j hj) ?_))
    have r1:rd Vd (L.map (ln (owners m))) e.1.1=ln (owners m) (kx L i):=by rw [e1];exact rd_mapk (by omega)
    have r2:rd Vd (L.map (ln (owners m))) e.1.2=ln (owners m) (kx L j):=by rw [e1];exact rd_mapk hj
    rw [r1,r2]
    have hE:∀ k,E1 m L e k↔¬ (e.2=1∧ShareP (kx L i) (kx L j))∧∃ a∈owners m (kx L i),∃ b∈owners m (kx L j),k=key a b:=fun k=>by
     unfold E1;rw [e1];simp only [Int.toNat_natCast]
    have hne:kx L i≠kx L j:=by
     unfold kx
     rw [rd_nat hj,rd_nat (show i<L.length by omega)]
     exact (List.pairwise_iff_getElem.1 hL.rise i j (by omega) hj hij).ne
    have go:∀ T',Tm T' (fun k=>K2 m (Ends L L.length) k∨∃ e'∈D++[e],E1 m L e' k) (4000*L.length+1600*(D++[e]).length)→K3 (A++B) T' Q:=fun T' hT'=>hK3 _ _ ⟨D++[e],hperm,hT'⟩ (by simp)
    unfold Jq.c5
    refine W.bind_i (contains_b (by simp) fun b1 h1=>W.bind_i ?_)
    rw [two_mem] at h1
    have last:∀ b2:Bool,(b1=false→(b2=true↔(kx L i).2=(kx L j).1∨(kx L i).2=(kx L j).2))→(fun r52=>W.ite ((eq_a50 (ln (owners m) (kx L i)).nodes (ln (owners m) (kx L j)).nodes)||((e.2==(1:Int))&&(b1||r52))) (K3 (A++B) t) (W.ex fun n=>W.iter2 (Jq.l3 K3 (A++B) (ln (owners m) (kx L i)) (ln (owners m) (kx L j))) n t (0:Int)) Q) b2:=fun b2 h2=>by
     have hsh:(b1||b2)=true↔ShareP (kx L i) (kx L j):=by
      rw [Bool.or_eq_true]
      change b1=true↔(kx L i).1=(kx L j).1∨(kx L i).1=(kx L j).2 at h1
      unfold ShareP
      cases b1 with
      | true=>simp at h1 ⊢;rcases h1 with h1 | h1<;>simp [h1]
      | false=>
       have h2:=h2 rfl
       simp at h1
       rw [h2]
       simp [h1]
     have heq:eq_a50 (ln (owners m) (kx L i)).nodes (ln (owners m) (kx L j)).nodes=false:=by
      rw [← Bool.not_eq_true]
      intro k
      unfold eq_a50 at k
      rw [Bool.and_eq_true,sEq_eq,sEq_eq] at k
      exact hne (Prod.ext k.1 k.2)
     dsimp only
     rw [heq,Bool.false_or]
     refine W.ite_i (fun k=>?_) (fun k=>?_)
     ·rw [Bool.and_eq_true,beq_iff_eq,hsh] at k
      refine go t (hT3.mono (fun key=>?_) (by simp;omega))
      constructor
      ·rintro (q | ⟨e',he',q⟩)
       ·exact .inl q
       ·rcases List.mem_append.1 he' with he' | he'
        ·exact .inr ⟨e',he',q⟩
        ·rw [List.mem_singleton] at he'
         subst he'
         exact absurd k ((hE key).1 q).1
      ·rintro (q | ⟨e',he',q⟩)
       ·exact .inl q
       ·exact .inr ⟨e',List.mem_append_left _ he',q⟩
     ·rw [← Bool.not_eq_true,Bool.and_eq_true,beq_iff_eq,hsh] at k
      refine check_pairs hlen hT3 fun T' hT'=>go T' (hT'.mono (fun key=>?_) (by simp;omega))
      constructor
      ·rintro (q | ⟨e',he',q⟩)
       ·exact .inl (.inl q)
       ·rcases List.mem_append.1 he' with he' | he'
        ·exact .inl (.inr ⟨e',he',q⟩)
        ·rw [List.mem_singleton] at he'
         subst he'
         exact .inr ((hE key).1 q).2
      ·rintro ((q | ⟨e',he',q⟩) | q)
       ·exact .inl q
       ·exact .inr ⟨e',List.mem_append_left _ he',q⟩
       ·exact .inr ⟨e,List.mem_append_right _ (List.mem_singleton.2 rfl),(hE key).2 ⟨k,q⟩⟩
    cases hb1:b1 with
    | true=>
     have:=last false (fun k=>by rw [hb1] at k;cases k)
     rw [hb1] at this
     exact this
    | false=>
     refine contains_b (by simp) fun b2 h2=>?_
     rw [two_mem] at h2
     have:=last b2 (fun _=>h2)
     rw [hb1] at this
     exact this
theorem border_Check_b {m:Map} (hf:MapFit m) (hfew:FewP m 24) {Q:List Violation→Prop} (hn:¬ MapOk m→Q []) (hq:MapOk m→∀ W:List Ids,W.Pairwise lLt→(∀ ids,ids∈W↔BadI m ids)→W.length≤1400000000000→Q (W.map viol)):Jq.F m Q:=border_Check_b40 hf ⟨Int.le_trans hfew.few (by decide),hfew.refs⟩ hn hq
theorem fit_ok {m:Map} (h:MapOk m):MapFit m:=by
 have hm:=maxLen_val
 refine ⟨by have:=h.few;omega,fun i hi=>?_⟩
 have o:=h.each i hi
 have nl:∀ s,NameOk s→s.size≤maxLen:=fun s hs=>by have:=hs.2.1;omega
 exact ⟨nl _ o.name,by have:=o.count.1;omega,fun j hj=>nl _ (o.refs.name j hj),by have:=o.tags.few;omega,fun j hj=>nl _ (o.tags.each j hj).1⟩
def nm (n:UInt8):ByteArray:=⟨#[n]⟩
theorem nm_lt {x y:UInt8}:sLt (nm x) (nm y)=decide (x<y):=by
 unfold sLt nm;rw [size_toList,size_toList]
 simp [Op.bytesLess]
theorem nm_inj {x y:UInt8}:nm x=nm y↔x=y:=by
 unfold nm
 constructor
 ·intro h;injection h with h;injection h with h;injection h
 ·rintro rfl;rfl
theorem nm_ok {x:UInt8} (h:isLetter x.toNat=true):NameOk (nm x):=by
 refine ⟨Nat.one_pos,(by decide:1≤24),?_,fun i hi=>?_⟩
 ·show isLetter (byteAt (nm x) 0)=true
  exact h
 ·have:i=0:=by simp [nm,ByteArray.size] at hi;omega
  subst this
  show isWord (x.toNat:Int)=true
  unfold isWord;rw [h];rfl
def nd (c:UInt8) (x y:Int):Object:=⟨nm c,1,⟨x,y⟩,[],[]⟩
def wy (c:UInt8) (l:List UInt8):Object:=⟨nm c,2,zPoint,l.map nm,[]⟩
def sq (w:List Object):Map:=⟨[nd 97 0 0,nd 98 4 4,nd 99 0 4,nd 100 4 0]++w⟩
theorem no_tags:TagsOk []:=⟨by decide,fun i h=>by simp at h,fun i h=>by simp at h⟩
theorem nd_ok {c:UInt8} {x y:Int} (hc:isLetter c.toNat=true) (hx:0≤x∧x<1048576) (hy:0≤y∧y<1048576):ObjOk (nd c x y):={
 kind:=(by decide:(1:Int)≤1∧(1:Int)≤5)
 name:=nm_ok hc
 tags:=no_tags
 refs:=⟨fun i h=>by simp [nd] at h,fun k=>by simp [nd] at k,fun k=>by simp [nd] at k⟩
 count:=(by decide:0≤2000∧((1:Int)=1→0=0)∧((1:Int)=2→2≤0)∧((1:Int)=3→3≤0)∧((1:Int)=4→1≤0)∧((1:Int)=5→0=3))
 at_:=⟨fun _=>⟨hx.1,hx.2,hy.1,hy.2⟩,fun k=>absurd rfl k⟩ }
theorem wy_ok {c:UInt8} {l:List UInt8} (hc:isLetter c.toNat=true) (hl:∀ x∈l,isLetter x.toNat=true) (h2:2≤l.length) (h20:l.length≤2000) (hne:∀ (i:Nat) (h:i+1<l.length),l[i]≠l[i+1]):ObjOk (wy c l):=by
 have r:∀ (i:Nat) (h:i<l.length),rs (wy c l).Refs i=nm l[i]:=fun i h=>rd_map h
 have el:(wy c l).Refs.length=l.length:=by simp [wy]
 refine ⟨(by decide:(1:Int)≤2∧(2:Int)≤5),nm_ok hc,no_tags,⟨fun i h=>?_,fun _ i h=>?_,fun k=>by simp [wy] at k⟩,?_,⟨fun k=>by simp [wy] at k,fun _=>⟨rfl,rfl⟩⟩⟩
 ·rw [el] at h
  rw [r i h];exact nm_ok (hl _ (List.getElem_mem h))
 ·rw [el] at h
  rw [r i (by omega),r (i+1) h,Ne,nm_inj];exact hne i h
 ·rw [el]
  show l.length≤2000∧((2:Int)=1→_)∧((2:Int)=2→_)∧((2:Int)=3→_)∧((2:Int)=4→_)∧((2:Int)=5→_)
  exact ⟨h20,fun k=>by omega,fun _=>h2,fun k=>by omega,fun k=>by omega,fun k=>by omega⟩
theorem four (i:Nat) (h:i<4):i=0∨i=1∨i=2∨i=3:=by omega
theorem node_ok {w:List Object} {i:Nat} (h:i<4):ObjOk (ob (sq w) i):=by
 rcases four i h with rfl | rfl | rfl | rfl
 ·exact nd_ok (c:=97) (by decide) (by decide) (by decide)
 ·exact nd_ok (c:=98) (by decide) (by decide) (by decide)
 ·exact nd_ok (c:=99) (by decide) (by decide) (by decide)
 ·exact nd_ok (c:=100) (by decide) (by decide) (by decide)
theorem node_lt {w:List Object} {i:Nat} (h:i<3):sLt (ob (sq w) i).Id (ob (sq w) (i+1)).Id=true:=by
 rcases (show i=0∨i=1∨i=2 by omega) with rfl | rfl | rfl
 ·exact (nm_lt (x:=97) (y:=98)).trans (by decide)
 ·exact (nm_lt (x:=98) (y:=99)).trans (by decide)
 ·exact (nm_lt (x:=99) (y:=100)).trans (by decide)
theorem sq1_ok {l:List UInt8} (h:ObjOk (wy 118 l)):MapOk (sq [wy 118 l]):=by
 have hl:(sq [wy 118 l]).Objects.length=5:=rfl
 refine ⟨by rw [hl];decide,fun i hi=>?_,fun i hi=>?_⟩
 ·rw [hl] at hi
  by_cases c:i<4
  ·exact node_ok c
  ·have:i=4:=by omega
   subst this;exact h
 ·rw [hl] at hi
  by_cases c:i<3
  ·exact node_lt c
  ·have:i=3:=by omega
   subst this;exact (nm_lt (x:=100) (y:=118)).trans (by decide)
theorem sq2_ok {l l':List UInt8} (h:ObjOk (wy 118 l)) (h':ObjOk (wy 119 l')):MapOk (sq [wy 118 l,wy 119 l']):=by
 have hl:(sq [wy 118 l,wy 119 l']).Objects.length=6:=rfl
 refine ⟨by rw [hl];decide,fun i hi=>?_,fun i hi=>?_⟩
 ·rw [hl] at hi
  by_cases c:i<4
  ·exact node_ok c
  ·rcases (show i=4∨i=5 by omega) with rfl | rfl
   ·exact h
   ·exact h'
 ·rw [hl] at hi
  by_cases c:i<3
  ·exact node_lt c
  ·rcases (show i=3∨i=4 by omega) with rfl | rfl
   ·exact (nm_lt (x:=100) (y:=118)).trans (by decide)
   ·exact (nm_lt (x:=118) (y:=119)).trans (by decide)
def Abcd (r:ByteArray):Prop:=r=nm 97∨r=nm 98∨r=nm 99∨r=nm 100
theorem sq_len {w:List Object}:(sq w).Objects.length=4+w.length:=by simp [sq];omega
theorem sq_nd {w:List Object} {r:ByteArray} (h:Abcd r):Nd (sq w) r:=by
 rcases h with rfl | rfl | rfl | rfl
 ·exact ⟨0,⟨by rw [sq_len];omega,rfl⟩,rfl⟩
 ·exact ⟨1,⟨by rw [sq_len];omega,rfl⟩,rfl⟩
 ·exact ⟨2,⟨by rw [sq_len];omega,rfl⟩,rfl⟩
 ·exact ⟨3,⟨by rw [sq_len];omega,rfl⟩,rfl⟩
theorem rd_app {α:Type} {z:α} (A B:List α) (i:Nat):rd z (A++B) ((A.length+i:Nat):Int)=rd z B (i:Int):=by
 unfold rd
 rw [show ((A.length+i:Nat):Int).toNat=A.length+i by omega,show ((i:Nat):Int).toNat=i by omega,List.getD_eq_getElem?_getD,List.getD_eq_getElem?_getD,List.getElem?_append_right (by omega)]
 simp
theorem ob_way {w:List Object} {i:Nat} (h:i<w.length):ob (sq w) (4+i)=w[i]:=(rd_app [nd 97 0 0,nd 98 4 4,nd 99 0 4,nd 100 4 0] w i).trans (rd_nat h)
theorem sides_node {w:List Object} {i:Nat} (h:i<4):sides (ob (sq w) i)=[]:=by
 rcases four i h with rfl | rfl | rfl | rfl<;>rfl
def Way (o:Object):Prop:=o.Kind=2∧∀ r∈o.Refs,Abcd r
theorem sq_own {w:List Object} (hw:∀ o∈w,Way o) {s:Key} {id:ByteArray}:id∈owners (sq w) s↔∃ o∈w,o.Id=id∧s∈sides o:=by
 rw [own_mem]
 constructor
 ·rintro ⟨i,hi,e,hs,h⟩
  rw [sq_len] at hi
  by_cases c:i<4
  ·rw [sides_node c] at h;cases h
  ·obtain ⟨k,rfl⟩:=Nat.exists_eq_add_of_le (show 4≤i by omega)
   rw [ob_way (by omega)] at e h
   exact ⟨_,List.getElem_mem _,e.symm,h⟩
 ·rintro ⟨o,ho,e,h⟩
  obtain ⟨i,hi,rfl⟩:=List.mem_iff_getElem.1 ho
  refine ⟨4+i,by rw [sq_len];omega,?_,?_,?_⟩
  ·rw [ob_way hi];exact e.symm
  ·rw [ob_way hi]
   exact fun k hk=>sq_nd ((hw _ ho).2 _ (rs_mem hk))
  ·rw [ob_way hi];exact h
theorem wy_way {c:UInt8} {l:List UInt8} (h:∀ x∈l,x=97∨x=98∨x=99∨x=100):Way (wy c l):=⟨rfl,fun r hr=>by
 obtain ⟨x,hx,rfl⟩:=List.mem_map.1 hr
 unfold Abcd
 simp only [nm_inj]
 exact h x hx⟩
theorem key_nm {x y:UInt8} (h:x<y):key (nm x) (nm y)=(nm x,nm y)∧key (nm y) (nm x)=(nm x,nm y):=by
 have:=sMin_lt (a:=nm x) (b:=nm y) (by rw [nm_lt];simpa using h)
 unfold key
 rw [this.1,this.2.1,this.2.2.1,this.2.2.2]
 exact ⟨rfl,rfl⟩
theorem sides_ab {c x y:UInt8} (h:x<y):sides (wy c [x,y])=[(nm x,nm y)]∧sides (wy c [y,x])=[(nm x,nm y)]∧sides (wy c [x,y,x])=[(nm x,nm y),(nm x,nm y)]:=by
 refine ⟨?_,?_,?_⟩
 ·show [key (nm x) (nm y)]=_;rw [(key_nm h).1]
 ·show [key (nm y) (nm x)]=_;rw [(key_nm h).2]
 ·show [key (nm x) (nm y),key (nm y) (nm x)]=_;rw [(key_nm h).1,(key_nm h).2]
theorem sq_pos {w:List Object} (h:MapOk (sq w)):pos (sq w) (nm 97)=⟨0,0⟩∧pos (sq w) (nm 98)=⟨4,4⟩∧pos (sq w) (nm 99)=⟨0,4⟩∧pos (sq w) (nm 100)=⟨4,0⟩:=
 ⟨pos_eq h (j:=0) ⟨by rw [sq_len];omega,rfl⟩,pos_eq h (j:=1) ⟨by rw [sq_len];omega,rfl⟩,pos_eq h (j:=2) ⟨by rw [sq_len];omega,rfl⟩,pos_eq h (j:=3) ⟨by rw [sq_len];omega,rfl⟩⟩
theorem no_X2 {w:List Object} (h:MapOk (sq w)) {s t:Key} (hs:Abcd s.1∧Abcd s.2) (ht:Abcd t.1∧Abcd t.2) {ids:Ids}:¬ X2 (sq w) s t ids:=by
 rintro ⟨a,ha,b,hb,hne,hp,_⟩
 have ha:Abcd a:=ha.elim (fun e=>e ▸ hs.1) (fun e=>e ▸ hs.2)
 have hb:Abcd b:=hb.elim (fun e=>e ▸ ht.1) (fun e=>e ▸ ht.2)
 obtain ⟨p1,p2,p3,p4⟩:=sq_pos h
 rcases ha with rfl | rfl | rfl | rfl<;>rcases hb with rfl | rfl | rfl | rfl<;>first | exact hne rfl | (simp only [p1,p2,p3,p4] at hp;exact absurd hp (by decide))
instance (s:Segment) (p:Point):Decidable (On s p):=by unfold On Bx;infer_instance
instance (s:Segment) (p:Point):Decidable (IsEnd s p):=by unfold IsEnd;infer_instance
instance (s t:Segment):Decidable (SameEnds s t):=by unfold SameEnds;infer_instance
instance (s t:Segment):Decidable (Proper s t):=by unfold Proper;infer_instance
instance (p:Point):Decidable (Near p):=by unfold Near;infer_instance
instance (s:Segment):Decidable (NearS s):=by unfold NearS;infer_instance
theorem com_dec {s t:Segment} {P:Point→Prop} (h:∀ p∈[s.A,s.B,t.A,t.B],On s p→On t p→P p):∀ p,Com s t p→P p:=by
 rintro p ⟨(rfl | rfl) | (rfl | rfl),h1,h2⟩
 ·exact h _ (by simp) h1 h2
 ·exact h _ (by simp) h1 h2
 ·exact h _ (by simp) h1 h2
 ·exact h _ (by simp) h1 h2
theorem meet_cross:MeetsR ⟨⟨0,4⟩,⟨4,0⟩⟩ ⟨⟨0,0⟩,⟨4,4⟩⟩ 3:=.cross (by decide) (by decide) (com_dec (by decide)) (by decide)
theorem meet_corner:MeetsR ⟨⟨4,4⟩,⟨0,4⟩⟩ ⟨⟨0,0⟩,⟨4,4⟩⟩ 1:=.end_ (by decide) (by decide) ⟨4,4⟩ (by unfold Com;decide) (com_dec (by decide)) (by decide)
theorem meet_free:MeetsR ⟨⟨0,0⟩,⟨4,4⟩⟩ ⟨⟨4,4⟩,⟨9,0⟩⟩ 1:=.end_ (by decide) (by decide) ⟨4,4⟩ (by unfold Com;decide) (com_dec (by decide)) (by decide)
theorem meet_touch:MeetsR ⟨⟨0,0⟩,⟨4,4⟩⟩ ⟨⟨2,2⟩,⟨9,0⟩⟩ 2:=.touch (by decide) (by decide) ⟨2,2⟩ (by unfold Com;decide) (com_dec (by decide)) (by decide)
theorem ids_b {a b:Ids} (ha:a.length≤1000000) (hb:b.length≤1000000) {Q:Bool→Prop} (hq:∀ r,(r=true↔a=b)→Q r):ja7.F a b Q:=by
 refine W.bind_i (before_b ha hb fun r1 h1=>W.bind_i ?_)
 cases r1 with
 | true=>exact hq _ (iff_of_false (by simp) fun e=>by subst e;exact lLt_irr _ (h1.1 rfl))
 | false=>
  refine before_b hb ha fun r2 h2=>hq _ ?_
  cases r2 with
  | true=>exact iff_of_false (by simp) fun e=>by subst e;exact lLt_irr _ (h2.1 rfl)
  | false=>
   refine iff_of_true (by simp) ?_
   rcases lLt_tri a b with k | k | k
   ·have:=h1.2 k;cases this
   ·exact k
   ·have:=h2.2 k;cases this
theorem border_Segments_b {m:Map} (hf:MapFit m) {Q:(List Segment)×(List Ids)→Prop} (hn:¬ MapOk m→Q ([],[])) (hq:MapOk m→∀ L,Ks (owners m) L→L.length≤2001*m.Objects.length→Q (L.map (sg m),L.map (owners m))):qf.F m Q:=by
 refine W.bind_i (border_of_b hf (fun hno=>W.ite_i (fun _=>hn hno) (fun k=>by simp at k)) (fun h x0 hx0=>W.ite_i (fun k=>by simp at k) (fun _=>?_)))
 have hfew:=h.few
 refine W.bind_i (lines_b h hx0 fun L hL hll=>?_)
 refine W.up2 L.length (fun i x=>x=(L.take i).map (owners m)) rfl (fun K i x hi hI hK=>?_)
 subst hI
 refine W.dec_i (fun hlt=>W.req_i ⟨by omega,hlt⟩ (W.req_i ⟨by omega,hlt⟩ ?_)) (fun hge=>?_)
 ·rw [List.length_map] at hlt
  have hi':i<L.length:=by omega
  rw [rd_map hi']
  refine W.req_i (by simp;omega) ?_
  rw [w64_succ (by omega)]
  refine hK hi' _ ?_
  rw [List.take_add_one,List.getElem?_eq_getElem hi',List.map_append]
  rfl
 ·rw [List.length_map] at hge
  have:i=L.length:=by omega
  subst this
  rw [List.take_length]
  exact W.bind_i (segments_b h hx0 hL hll (hq h L hL hll))
theorem square_b {w:List Object} (hw:w.length≤10) {Q:Map→Prop} (hq:Q (sq w)):qr.F w Q:=
 W.bind_i (W.bind_i (W.bind_i (W.bind_i (W.req_i ⟨by simp;omega,by simp;omega⟩ hq))))
theorem sq_few {w:List Object} (hw:w.length≤10) (hr:∀ o∈w,o.Refs.length≤12):FewP (sq w) 24:=by
 refine ⟨by rw [sq_len];omega,fun i hi=>?_⟩
 rw [sq_len] at hi
 by_cases c:i<4
 ·rcases four i c with rfl | rfl | rfl | rfl<;>exact Nat.zero_le _
 ·obtain ⟨k,rfl⟩:=Nat.exists_eq_add_of_le (show 4≤i by omega)
  rw [ob_way (by omega)]
  exact hr _ (List.getElem_mem _)
theorem own_ne {w:List Object} (hw:∀ o∈w,Way o) {s:Key}:owners (sq w) s≠[]↔∃ o∈w,s∈sides o:=by
 constructor
 ·intro h
  obtain ⟨a,ha⟩:=List.exists_mem_of_ne_nil _ h
  obtain ⟨o,ho,_,hs⟩:=(sq_own hw).1 ha
  exact ⟨o,ho,hs⟩
 ·rintro ⟨o,ho,hs⟩
  exact List.ne_nil_of_mem ((sq_own hw).2 ⟨o,ho,rfl,hs⟩)
abbrev kab:Key:=(nm 97,nm 98)
abbrev kbc:Key:=(nm 98,nm 99)
abbrev kcd:Key:=(nm 99,nm 100)
abbrev w1:List Object:=[wy 118 [97,98],wy 119 [99,100]]
abbrev w2:List Object:=[wy 118 [97,98],wy 119 [98,99]]
abbrev w3:List Object:=[wy 118 [97,98,97],wy 119 [98,97]]
abbrev w4:List Object:=[wy 118 [97,98]]
theorem two_ne {x y:UInt8} (h:x≠y):∀ (i:Nat) (h:i+1<[x,y].length),[x,y][i]≠[x,y][i+1]:=fun i hi=>by
 have:i=0:=by simp at hi;omega
 subst this;exact h
theorem o1:MapOk (sq w1):=sq2_ok (wy_ok (by decide) (by decide) (by decide) (by decide) (two_ne (by decide))) (wy_ok (by decide) (by decide) (by decide) (by decide) (two_ne (by decide)))
theorem o2:MapOk (sq w2):=sq2_ok (wy_ok (by decide) (by decide) (by decide) (by decide) (two_ne (by decide))) (wy_ok (by decide) (by decide) (by decide) (by decide) (two_ne (by decide)))
theorem o3:MapOk (sq w3):=sq2_ok (wy_ok (by decide) (by decide) (by decide) (by decide) (fun i hi=>by
 have:i=0∨i=1:=by simp at hi;omega
 rcases this with rfl | rfl
 ·exact (by decide:(97:UInt8)≠98)
 ·exact (by decide:(98:UInt8)≠97))) (wy_ok (by decide) (by decide) (by decide) (by decide) (two_ne (by decide)))
theorem o4:MapOk (sq w4):=sq1_ok (wy_ok (by decide) (by decide) (by decide) (by decide) (two_ne (by decide)))
theorem y1:∀ o∈w1,Way o:=by
 intro o ho
 simp only [List.mem_cons,List.not_mem_nil,or_false] at ho
 rcases ho with rfl | rfl<;>exact wy_way (by decide)
theorem y2:∀ o∈w2,Way o:=by
 intro o ho
 simp only [List.mem_cons,List.not_mem_nil,or_false] at ho
 rcases ho with rfl | rfl<;>exact wy_way (by decide)
theorem y3:∀ o∈w3,Way o:=by
 intro o ho
 simp only [List.mem_cons,List.not_mem_nil,or_false] at ho
 rcases ho with rfl | rfl<;>exact wy_way (by decide)
theorem y4:∀ o∈w4,Way o:=by
 intro o ho
 simp only [List.mem_cons,List.not_mem_nil,or_false] at ho
 subst ho;exact wy_way (by decide)
theorem few_w {w:List Object} (h:w=w1∨w=w2∨w=w3∨w=w4):FewP (sq w) 24:=by
 refine sq_few ?_ ?_
 ·rcases h with rfl | rfl | rfl | rfl<;>decide
 ·intro o ho
  rcases h with rfl | rfl | rfl | rfl
  ·simp only [List.mem_cons,List.not_mem_nil,or_false] at ho
   rcases ho with rfl | rfl<;>decide
  ·simp only [List.mem_cons,List.not_mem_nil,or_false] at ho
   rcases ho with rfl | rfl<;>decide
  ·simp only [List.mem_cons,List.not_mem_nil,or_false] at ho
   rcases ho with rfl | rfl<;>decide
  ·simp only [List.mem_cons,List.not_mem_nil,or_false] at ho
   subst ho;decide
theorem s_ab {c:UInt8}:sides (wy c [97,98])=[kab]:=(sides_ab (c:=c) (x:=97) (y:=98) (by decide)).1
theorem s_bc {c:UInt8}:sides (wy c [98,99])=[kbc]:=(sides_ab (c:=c) (x:=98) (y:=99) (by decide)).1
theorem s_cd {c:UInt8}:sides (wy c [99,100])=[kcd]:=(sides_ab (c:=c) (x:=99) (y:=100) (by decide)).1
theorem s_ba {c:UInt8}:sides (wy c [98,97])=[kab]:=(sides_ab (c:=c) (x:=97) (y:=98) (by decide)).2.1
theorem s_aba {c:UInt8}:sides (wy c [97,98,97])=[kab,kab]:=(sides_ab (c:=c) (x:=97) (y:=98) (by decide)).2.2
theorem kne {x y z u:UInt8} (h:x≠z):((nm x,nm y):Key)≠(nm z,nm u):=fun e=>h (nm_inj.1 (congrArg Prod.fst e))
theorem L1:Ks (owners (sq w1)) [kab,kcd]:=⟨by
 rw [List.pairwise_cons]
 exact ⟨fun t ht=>by rw [List.mem_singleton] at ht;subst ht;exact .inl ((nm_lt (x:=97) (y:=99)).trans (by decide)),by simp⟩,fun s=>by
 rw [own_ne y1]
 simp [s_ab,s_cd]⟩
theorem L2:Ks (owners (sq w2)) [kab,kbc]:=⟨by
 rw [List.pairwise_cons]
 exact ⟨fun t ht=>by rw [List.mem_singleton] at ht;subst ht;exact .inl ((nm_lt (x:=97) (y:=98)).trans (by decide)),by simp⟩,fun s=>by
 rw [own_ne y2]
 simp [s_ab,s_bc]⟩
theorem L3:Ks (owners (sq w3)) [kab]:=⟨by simp,fun s=>by
 rw [own_ne y3]
 simp [s_aba,s_ba]⟩
theorem L4:Ks (owners (sq w4)) [kab]:=⟨by simp,fun s=>by
 rw [own_ne y4]
 simp [s_ab]⟩
theorem ab_in:Abcd kab.1∧Abcd kab.2:=⟨.inl rfl,.inr (.inl rfl)⟩
theorem bc_in:Abcd kbc.1∧Abcd kbc.2:=⟨.inr (.inl rfl),.inr (.inr (.inl rfl))⟩
theorem cd_in:Abcd kcd.1∧Abcd kcd.2:=⟨.inr (.inr (.inl rfl)),.inr (.inr (.inr rfl))⟩
theorem sg_ab {w:List Object} (h:MapOk (sq w)):sg (sq w) kab=⟨⟨0,0⟩,⟨4,4⟩⟩:=by unfold sg;rw [(sq_pos h).1,(sq_pos h).2.1]
theorem sg_bc {w:List Object} (h:MapOk (sq w)):sg (sq w) kbc=⟨⟨4,4⟩,⟨0,4⟩⟩:=by unfold sg;rw [(sq_pos h).2.1,(sq_pos h).2.2.1]
theorem sg_cd {w:List Object} (h:MapOk (sq w)):sg (sq w) kcd=⟨⟨0,4⟩,⟨4,0⟩⟩:=by unfold sg;rw [(sq_pos h).2.2.1,(sq_pos h).2.2.2]
theorem pr_vw:pr (nm 119) (nm 118)=[nm 118,nm 119]:=by
 have:=sMin_lt (a:=nm 118) (b:=nm 119) ((nm_lt (x:=118) (y:=119)).trans (by decide))
 unfold pr
 rw [if_neg (fun e=>by have:=nm_inj.1 e;exact absurd this (by decide)),this.2.2.1,this.2.2.2]
theorem bad1 {ids:Ids}:BadI (sq w1) ids↔ids=[nm 118,nm 119]:=by
 rw [bad_iff L1]
 constructor
 ·rintro ⟨i,hi,⟨k,hk,h⟩ | ⟨k,hk,h⟩⟩
  ·have:i=1∧k=0:=by simp at hi;omega
   obtain ⟨rfl,rfl⟩:=this
   obtain ⟨_,a,ha,b,hb,e⟩:=h
   change a∈owners (sq w1) kcd at ha
   change b∈owners (sq w1) kab at hb
   rw [sq_own y1] at ha hb
   have ea:a=nm 119:=by
    obtain ⟨o,ho,e,hs⟩:=ha
    simp only [List.mem_cons,List.not_mem_nil,or_false] at ho
    rcases ho with rfl | rfl
    ·rw [s_ab,List.mem_singleton] at hs;exact absurd hs (kne (by decide))
    ·exact e.symm
   have eb:b=nm 118:=by
    obtain ⟨o,ho,e,hs⟩:=hb
    simp only [List.mem_cons,List.not_mem_nil,or_false] at ho
    rcases ho with rfl | rfl
    ·exact e.symm
    ·rw [s_cd,List.mem_singleton] at hs;exact absurd hs (kne (by decide))
   rw [e,ea,eb,pr_vw]
  ·exfalso
   have:(i=0∨i=1)∧(k=0∨k=1):=by simp at hi;omega
   rcases this with ⟨rfl | rfl,rfl | rfl⟩
   ·exact no_X2 o1 ab_in ab_in h
   ·exact no_X2 o1 ab_in cd_in h
   ·exact no_X2 o1 cd_in ab_in h
   ·exact no_X2 o1 cd_in cd_in h
 ·rintro rfl
  refine ⟨1,by decide,.inl ⟨0,by decide,⟨3,?_,?_⟩,nm 119,?_,nm 118,?_,pr_vw.symm⟩⟩
  ·show MeetsR (sg (sq w1) kcd) (sg (sq w1) kab) 3
   rw [sg_cd o1,sg_ab o1];exact meet_cross
  ·unfold OrdN;omega
  ·exact (sq_own y1).2 ⟨wy 119 [99,100],by simp,rfl,by rw [s_cd];simp [kx,rd]⟩
  ·exact (sq_own y1).2 ⟨wy 118 [97,98],by simp,rfl,by rw [s_ab];simp [kx,rd]⟩
theorem bad2 {ids:Ids}:¬ BadI (sq w2) ids:=by
 rw [bad_iff L2]
 rintro ⟨i,hi,⟨k,hk,h⟩ | ⟨k,hk,h⟩⟩
 ·have:i=1∧k=0:=by simp at hi;omega
  obtain ⟨rfl,rfl⟩:=this
  obtain ⟨⟨n,hn,ho⟩,_⟩:=h
  change MeetsR (sg (sq w2) kbc) (sg (sq w2) kab) n at hn
  rw [sg_bc o2,sg_ab o2] at hn
  rw [hn.unique meet_corner] at ho
  exact ho (.inr ⟨rfl,.inr (.inl rfl)⟩)
 ·have:(i=0∨i=1)∧(k=0∨k=1):=by simp at hi;omega
  rcases this with ⟨rfl | rfl,rfl | rfl⟩
  ·exact no_X2 o2 ab_in ab_in h
  ·exact no_X2 o2 ab_in bc_in h
  ·exact no_X2 o2 bc_in ab_in h
  ·exact no_X2 o2 bc_in bc_in h
theorem bad3 {ids:Ids}:¬ BadI (sq w3) ids:=by
 rw [bad_iff L3]
 rintro ⟨i,hi,⟨k,hk,h⟩ | ⟨k,hk,h⟩⟩
 ·simp at hi;omega
 ·have:i=0∧k=0:=by simp at hi;omega
  obtain ⟨rfl,rfl⟩:=this
  exact no_X2 o3 ab_in ab_in h
theorem owner3:owners (sq w3) kab=[nm 118,nm 119]:=by
 have hs:∀ i,i<4→own (sq w3) (i+1) kab=own (sq w3) i kab:=fun i hi=>by
  rw [own_succ,if_neg,List.append_nil]
  rw [sides_node hi]
  rintro ⟨_,k⟩;cases k
 have hw:∀ i,i<2→SoundP (sq w3) (ob (sq w3) (4+i)):=fun i hi k hk=>by
  rw [ob_way (by exact hi)] at hk ⊢
  exact sq_nd ((y3 _ (List.getElem_mem _)).2 _ (rs_mem hk))
 have h4:own (sq w3) 4 kab=[]:=by rw [hs 3 (by omega),hs 2 (by omega),hs 1 (by omega),hs 0 (by omega)];simp [own]
 show own (sq w3) (4+0+1+1) kab=_
 rw [own_succ,own_succ,h4,if_pos ⟨hw 0 (by omega),by show kab∈sides (wy 118 [97,98,97]);rw [s_aba];simp⟩,if_pos ⟨hw 1 (by omega),by show kab∈sides (wy 119 [98,97]);rw [s_ba];simp⟩]
 rfl
theorem free4:FreeP (sq w4) ⟨⟨4,4⟩,⟨9,0⟩⟩:=⟨o4,by decide,fun L hL k hk n hn=>by
 rw [hL.unique L4,List.mem_singleton] at hk
 subst hk
 rw [sg_ab o4] at hn
 rw [hn.unique meet_free]
 exact .inr (.inl rfl)⟩
theorem not_free4:¬ FreeP (sq w4) ⟨⟨2,2⟩,⟨9,0⟩⟩:=fun h=>by
 have:=h.2.2 _ L4 kab (by simp) 2 (by rw [sg_ab o4];exact meet_touch)
 unfold Okn at this;omega
theorem unique_rise {W W':List Ids} (h:W.Pairwise lLt) (h':W'.Pairwise lLt) (hm:∀ x,x∈W↔x∈W'):W=W':=rise_unique (lt:=lLt) lLt_irr lLt_trans h h' hm
theorem way_b {c:UInt8} {l:List UInt8} {Q:Object→Prop} (h:Q (wy c l)):qi.F (nm c) (l.map nm) Q:=h
theorem head_b {Q:Bool→Prop} (hq:Q true):yk.F Q:=by
 refine W.bind_i (way_b (c:=118) (l:=[97,98]) (W.bind_i (way_b (c:=119) (l:=[99,100]) (W.bind_i (square_b (w:=w1) (by decide) ?_)))))
 refine W.bind_i (border_Check_b (fit_ok o1) (few_w (.inl rfl)) (fun k=>absurd o1 k) fun _ W1 h1 m1 _=>?_)
 have e1:W1=[[nm 118,nm 119]]:=unique_rise h1 (by simp) fun x=>by rw [m1,bad1,List.mem_singleton]
 subst e1
 refine W.bind_i (way_b (c:=118) (l:=[97,98]) (W.bind_i (way_b (c:=119) (l:=[98,99]) (W.bind_i (square_b (w:=w2) (by decide) ?_)))))
 refine W.bind_i (border_Check_b (fit_ok o2) (few_w (.inr (.inl rfl))) (fun k=>absurd o2 k) fun _ W2 h2 m2 _=>?_)
 have e2:W2=[]:=unique_rise h2 (by simp) fun x=>by rw [m2];exact iff_of_false bad2 (by simp)
 subst e2
 refine W.bind_i (way_b (c:=118) (l:=[97,98,97]) (W.bind_i (way_b (c:=119) (l:=[98,97]) (W.bind_i (square_b (w:=w3) (by decide) ?_)))))
 refine W.bind_i (border_Check_b (fit_ok o3) (few_w (.inr (.inr (.inl rfl)))) (fun k=>absurd o3 k) fun _ W3 h3 m3 _=>?_)
 have e3:W3=[]:=unique_rise h3 (by simp) fun x=>by rw [m3];exact iff_of_false bad3 (by simp)
 subst e3
 refine W.bind_i (way_b (c:=118) (l:=[97,98,97]) (W.bind_i (way_b (c:=119) (l:=[98,97]) (W.bind_i (square_b (w:=w3) (by decide) ?_)))))
 refine W.bind_i (border_Segments_b (fit_ok o3) (fun k=>absurd o3 k) fun _ L hL _=>?_)
 have eL:=hL.unique L3
 subst eL
 refine W.ite_i (fun k=>by simp at k) (fun _=>?_)
 refine W.bind_i (way_b (c:=118) (l:=[97,98]) (W.bind_i (square_b (w:=w4) (by decide) ?_)))
 refine W.bind_i (border_Free_b (fit_ok o4) fun b1 hb1=>?_)
 have f1:b1=true:=hb1.2 free4
 subst f1
 have hx:0≤(0:Int)∧(0:Int)<((([[nm 118,nm 119]]:List Ids).map viol).length:Int):=⟨by decide,by simp⟩
 have hy:0≤(0:Int)∧(0:Int)<(((([kab]:List Key).map (sg (sq w3)),([kab]:List Key).map (owners (sq w3))).2).length:Int):=⟨by decide,by simp⟩
 have hz:rd ([]:Ids) (([kab]:List Key).map (owners (sq w3))) (0:Int)=[nm 118,nm 119]:=owner3
 refine W.req_i hx (W.req_i hx (W.bind_i (ids_b (by show 2≤1000000;decide) (by show 2≤1000000;decide) fun b2 hb2=>?_)))
 have f2:b2=true:=hb2.2 rfl
 subst f2
 refine W.req_i (fun _=>hx) (W.req_i (fun _=>hx) (W.req_i (fun _=>hy) (W.req_i (fun _=>hy) (W.ite_i (fun _=>?_) (fun k=>?_)))))
 ·refine W.bind_i (ids_b (by show (rd ([]:Ids) (([kab]:List Key).map (owners (sq w3))) (0:Int)).length≤1000000;rw [hz];decide) (by show 2≤1000000;decide) fun b3 hb3=>?_)
  have f3:b3=true:=hb3.2 hz
  subst f3
  refine W.ite_i (fun _=>?_) (fun k=>by cases k)
  refine W.bind_i (way_b (c:=118) (l:=[97,98]) (W.bind_i (square_b (w:=w4) (by decide) ?_)))
  refine W.bind_i (border_Free_b (fit_ok o4) fun b4 hb4=>?_)
  have f4:b4=false:=by
   cases b4 with
   | false=>rfl
   | true=>exact absurd (hb4.1 rfl) not_free4
  subst f4
  exact hq
 ·exfalso
  have:((true&&((rd zViolation (([[nm 118,nm 119]]:List Ids).map viol) (0:Int)).Kind==(2:Int)))&&(((([]:List Ids).map viol).length:Int)==(0:Int))&&(((([]:List Ids).map viol).length:Int)==(0:Int)))=true:=rfl
  rw [this] at k;cases k
theorem key_key (a b:ByteArray):key (key a b).1 (key a b).2=key a b:=by
 rcases sLt_tri a b with h | h | h
 ·have:=sMin_lt h
  unfold key
  simp only [this.1,this.2.1]
 ·subst h
  have h1:sMin a a=a:=(sMin_or a a).elim id id
  have h2:sMax a a=a:=(sMax_or a a).elim id id
  unfold key
  simp only [h1,h2]
 ·have:=sMin_lt h
  unfold key
  simp only [this.1,this.2.1,this.2.2.1,this.2.2.2]
theorem range_rd {α:Type} {z:α}:∀ l:List α,(List.range l.length).map (fun i=>rd z l ((i:Nat):Int))=l:=fun l=>by
 apply List.ext_getElem
 ·simp
 ·intro i h1 h2
  simp only [List.getElem_map,List.getElem_range]
  exact rd_nat h2
open Classical in
theorem own_obj {m:Map} {s:Key}:owners m s=(m.Objects.filter (fun o=>decide (SoundP m o∧s∈sides o))).map (·.Id):=by
 have e:m.Objects.filter (fun o=>decide (SoundP m o∧s∈sides o))=((List.range m.Objects.length).filter (fun i=>decide (SoundP m (ob m i)∧s∈sides (ob m i)))).map (ob m):=by
  have:=range_rd (z:=zObject) m.Objects
  conv=>lhs;rw [← this]
  rw [List.filter_map]
  rfl
 rw [e,List.map_map]
 rfl
theorem ob_mem {m:Map} {i:Nat} (h:i<m.Objects.length):ob m i∈m.Objects:=by unfold ob;rw [rd_nat h];exact List.getElem_mem h
theorem mem_ob {m:Map} {o:Object} (h:o∈m.Objects):∃ i,i<m.Objects.length∧ob m i=o:=by
 obtain ⟨i,hi,e⟩:=List.mem_iff_getElem.1 h
 exact ⟨i,hi,by unfold ob;rw [rd_nat hi];exact e⟩
theorem nd_mem {m:Map} {id:ByteArray}:Nd m id↔∃ o∈m.Objects,o.Id=id∧o.Kind=1:=by
 constructor
 ·rintro ⟨j,hj,hk⟩;exact ⟨_,ob_mem hj.1,hj.2,hk⟩
 ·rintro ⟨o,ho,e,hk⟩
  obtain ⟨i,hi,rfl⟩:=mem_ob ho
  exact ⟨i,⟨hi,e⟩,hk⟩
theorem pos_mem {m:Map} (h:MapOk m) {o:Object} (ho:o∈m.Objects):pos m o.Id=o.At:=by
 obtain ⟨i,hi,rfl⟩:=mem_ob ho
 exact pos_eq h ⟨hi,rfl⟩
theorem ok_mem {m:Map}:MapOk m↔m.Objects.length≤1000000∧(∀ o∈m.Objects,ObjOk o)∧m.Objects.Pairwise (fun a b=>sLt a.Id b.Id=true):=by
 constructor
 ·intro h
  refine ⟨h.few,fun o ho=>?_,?_⟩
  ·obtain ⟨i,hi,rfl⟩:=mem_ob ho
   exact h.each i hi
  ·rw [List.pairwise_iff_getElem]
   intro i j hi hj hij
   have:=h.lt hij hj
   unfold ob at this
   rw [rd_nat hi,rd_nat hj] at this
   exact this
 ·rintro ⟨h1,h2,h3⟩
  refine ⟨h1,fun i hi=>h2 _ (ob_mem hi),fun i hi=>?_⟩
  unfold ob
  rw [rd_nat hi,rd_nat (show i<m.Objects.length by omega)]
  exact List.pairwise_iff_getElem.1 h3 i (i+1) (by omega) hi (by omega)
theorem own_nodes {m:Map} {s:Key} (h:owners m s≠[]):Nd m s.1∧Nd m s.2:=by
 obtain ⟨a,ha⟩:=List.exists_mem_of_ne_nil _ h
 obtain ⟨i,hi,_,h1,h2⟩:=own_mem.1 ha
 obtain ⟨⟨i,hi,e⟩,⟨j,hj,e2⟩⟩:=sides_refs h2
 rw [e,e2]
 exact ⟨h1 i hi,h1 j hj⟩
end Go.Gp.Gb
end
section
set_option linter.unusedVariables false
set_option linter.unusedSimpArgs false
set_option maxRecDepth 10000
namespace Go.Gp.Gb
theorem cmp_bytes:∀ a b:List UInt8,(Lib.compareBytes a b<0↔Op.bytesLess a b=true)∧(Lib.compareBytes a b=0↔a=b)
 | [],[]=>by simp [Lib.compareBytes,Op.bytesLess]
 | [],y::b=>by simp [Lib.compareBytes,Op.bytesLess]
 | x::a,[]=>by simp [Lib.compareBytes,Op.bytesLess]
 | x::a,y::b=>by
  have ih:=cmp_bytes a b
  simp only [Lib.compareBytes,Op.bytesLess]
  by_cases h1:x<y
  ·have hne:x≠y:=fun e=>by subst e;exact absurd h1 (UInt8.lt_irrefl x)
   simp [h1,hne]
  ·by_cases h2:y<x
   ·have hne:x≠y:=fun e=>by subst e;exact absurd h2 (UInt8.lt_irrefl x)
    simp [h1,h2,hne]
   ·have he:x=y:=UInt8.le_antisymm (UInt8.not_lt.1 h2) (UInt8.not_lt.1 h1)
    subst he
    simp [UInt8.lt_irrefl,ih]
theorem cmp_lt {a b:ByteArray}:(Extern.BytealgCompare.cmp a b<0)=(sLt a b=true):=by
 rw [Lib.cmp_eq,propext (cmp_bytes _ _).1]
 unfold sLt
 rw [size_toList,size_toList]
theorem cmp_zero {a b:ByteArray}:(Extern.BytealgCompare.cmp a b=0)=(a=b):=by
 rw [Lib.cmp_eq,propext (cmp_bytes _ _).2]
 refine propext ⟨fun h=>toList_inj (by rw [size_toList,size_toList];exact h),fun h=>by rw [h]⟩
theorem atlas_Find_b {m:Map} (hl:m.Objects.length≤1000000) {id:ByteArray} {Q:Int→Prop} (hn:(¬ ∃ j:Nat,Holds m id j)→Q (-1)) (hy:∀ j:Nat,Holds m id j→(∀ i,i<j→(ob m i).Id≠id)→Q (j:Int)):ja4.F m id Q:=by
 show Jt.F m.Objects id Q
 refine W.up1 m.Objects.length (fun i=>∀ j,j<i→(ob m j).Id≠id) (fun j h=>by omega) (fun K i hi hI hK=>?_)
 refine W.dec_i (fun hlt=>W.req_i ⟨by omega,hlt⟩ ?_) (fun hge=>?_)
 ·have hi':i<m.Objects.length:=by omega
  show W.ite (sEq (ob m i).Id id) _ _ Q
  refine W.ite_i (fun h=>?_) (fun h=>?_)
  ·rw [sEq_eq] at h
   exact hy i ⟨hi',h⟩ hI
  ·rw [sEq_false] at h
   rw [w64_succ (by omega)]
   refine hK hi' (fun j hj=>?_)
   by_cases e:j=i
   ·subst e;exact h
   ·exact hI j (by omega)
 ·refine hn ?_
  rintro ⟨j,hj,e⟩
  exact hI j (by omega) e
theorem half_w {a b:Nat} (ha:a≤b) (hb:b≤4000000000):w64 (Int.fdiv (IntKind.wrap .u64 (w64 ((a:Int)+(b:Int)))) (2 ^ (min (1:Int).toNat (IntKind.bits .u64))))=(((a+b) / 2:Nat):Int):=by
 rw [w64_id (x:=(a:Int)+(b:Int)) (by omega) (by omega)]
 have e1:IntKind.wrap .u64 ((a:Int)+(b:Int))=(a:Int)+(b:Int):=by
  simp [IntKind.wrap,IntKind.bits,IntKind.signed];omega
 have e2:(2:Int) ^ (min (1:Int).toNat (IntKind.bits .u64))=2:=rfl
 rw [e1,e2,Int.fdiv_eq_ediv_of_nonneg _ (by decide)]
 rw [w64_id (by omega) (by omega)]
 omega
structure Spot (m:Map) (id:ByteArray) (i:Nat):Prop where
 le:i≤m.Objects.length
 lo:∀ j,j<i→sLt (ob m j).Id id=true
 hi:∀ j,i≤j→j<m.Objects.length→sLt (ob m j).Id id=false
theorem atlas_at_b {m:Map} (h:MapOk m) {id:ByteArray} {Q:Int×Bool→Prop} (hq:∀ i,Spot m id i→∀ b,(b=true↔Holds m id i)→Q ((i:Int),b)):atlas_at.F m id Q:=by
 have hl:=h.few
 show Js.F m.Objects id (fun r1=>Q (r1.1,r1.2))
 refine W.loop2 (fun (f t:Int)=>∃ a b:Nat,f=(a:Int)∧t=(b:Int)∧a≤b∧b≤m.Objects.length∧(∀ j,j<a→sLt (ob m j).Id id=true)∧(∀ j,b≤j→j<m.Objects.length→sLt (ob m j).Id id=false)) (fun f t=>t.toNat-f.toNat) ?_ ⟨0,m.Objects.length,rfl,rfl,by omega,by omega,fun j h=>by omega,fun j h1 h2=>by omega⟩
 rintro K f t ⟨a,b,rfl,rfl,hab,hb,h1,h2⟩ hk
 refine W.dec_i (fun hlt=>?_) (fun hge=>?_)
 ·rw [half_w hab (by omega)]
  have hc:(a+b) / 2<m.Objects.length:=by omega
  generalize hcc:(a+b) / 2=c at *
  refine W.req_i (by decide) (W.req_i ⟨by omega,by omega⟩ ?_)
  show W.ite (decide (Extern.BytealgCompare.cmp (ob m c).Id id<0)) _ _ _
  refine W.dec_i (fun hs=>?_) (fun hs=>?_)
  ·rw [cmp_lt] at hs
   rw [w64_succ (by omega)]
   refine hk _ _ ⟨c+1,b,rfl,rfl,by omega,hb,fun j hj=>?_,h2⟩ (by omega)
   by_cases e2:j=c
   ·subst e2;exact hs
   ·exact sLt_trans (h.lt (show j<c by omega) hc) hs
  ·rw [cmp_lt,Bool.not_eq_true] at hs
   refine hk _ _ ⟨a,c,rfl,rfl,by omega,by omega,h1,fun j hj1 hj2=>?_⟩ (by omega)
   by_cases e2:j=c
   ·subst e2;exact hs
   ·cases hq:sLt (ob m j).Id id with
    | false=>rfl
    | true=>rw [sLt_trans (h.lt (show c<j by omega) hj2) hq] at hs;cases hs
 ·have hab':a=b:=by omega
  subst hab'
  refine W.req_i (fun hd=>⟨by omega,by simpa using hd⟩) (W.bind_i ?_)
  refine W.dec_i (fun hlt=>?_) (fun hge2=>?_)
  ·show Q ((a:Int),decide ((a:Int)<(m.Objects.length:Int))&&(Extern.BytealgCompare.cmp (ob m a).Id id==0))
   refine hq a ⟨hb,h1,h2⟩ _ ?_
   rw [decide_eq_true hlt,Bool.true_and,beq_iff_eq,cmp_zero]
   exact ⟨fun e=>⟨by omega,e⟩,fun e=>e.2⟩
  ·show Q ((a:Int),decide ((a:Int)<(m.Objects.length:Int))&&((0:Int)==0))
   refine hq a ⟨hb,h1,h2⟩ _ ?_
   rw [decide_eq_false hge2]
   exact ⟨fun e=>(by simp at e),fun e=>by have:=e.1;omega⟩
theorem atlas_valid_b {m:Map} (hf:MapFit m) {Q:Bool→Prop} (h:∀ b,(b=true↔MapOk m)→Q b):jb1.F [m] Q:=by
 show Jx.F [m] (fun r1=>Q (!(decide ((0:Int)≤r1))))
 refine W.up1 1 (fun i=>i=0∨MapOk m) (.inl rfl) (fun K i hi hI hK=>?_)
 refine W.dec_i (fun hlt=>W.req_i ⟨by omega,hlt⟩ ?_) (fun hge=>?_)
 ·have hi':i=0:=by simp only [List.length_cons,List.length_nil] at hlt;omega
  subst hi'
  show qj.F m _
  refine atlas_Valid_b hf fun b hb=>?_
  show W.ite (!b) _ _ _
  refine W.ite_i (fun k=>?_) (fun k=>?_)
  ·refine h _ ⟨fun e=>by simp at e,fun e=>?_⟩
   rw [hb.2 e] at k;cases k
  ·exact hK (by omega) (.inr (hb.1 (by simpa using k)))
 ·have hi':i=1:=by simp only [List.length_cons,List.length_nil] at hge;omega
  subst hi'
  refine h _ ⟨fun _=>hI.resolve_left (by omega),fun _=>by decide⟩
theorem insert_b {l:List Object} (hl:l.length≤1000000) {o:Object} {i:Nat} (hi:i≤l.length) {Q:List Object→Prop} (hq:Q (l.take i++o::l.drop i)):Vr.F l (i:Int) [o] Q:=by
 refine W.req_i ⟨by omega,by omega⟩ ?_
 have h1:((([o]:List Object).length:Int)==(0:Int))=false:=rfl
 rw [h1]
 show W.ite ((i:Int)==(l.length:Int)) _ _ Q
 refine W.ite_i (fun h=>?_) (fun h=>?_)
 ·have he:i=l.length:=by simp at h;omega
  subst he
  refine W.req_i (by simp only [List.length_cons,List.length_nil];omega) ?_
  show Q (l++[o])
  simpa using hq
 ·have he:i≠l.length:=fun e=>by subst e;simp at h
  obtain ⟨A,b,B,rfl,hA⟩:∃ A b B,l=A++b::B∧A.length=i:=⟨l.take i,l[i]'(by omega),l.drop (i+1),by simp,by simp;omega⟩
  subst hA
  have eN:(A++b::B).length=A.length+B.length+1:=by simp;omega
  generalize hN:(A++b::B).length=N at *
  have hlen:([o]:List Object).length=1:=rfl
  have w1:w64 ((N:Int)+(([o]:List Object).length:Int))=((N+1:Nat):Int):=by rw [hlen,w64_id (by omega) (by omega)];omega
  have w2:w64 (((N+1:Nat):Int)-(A.length:Int))=((N+1-A.length:Nat):Int):=by rw [w64_id (by omega) (by omega)];omega
  have w3:w64 ((A.length:Int)+(([o]:List Object).length:Int))=((A.length+1:Nat):Int):=by rw [hlen,w64_id (by omega) (by omega)];omega
  have t1:((N+1-A.length:Nat):Int).toNat=N+1-A.length:=by omega
  have t2:((A.length+1:Nat):Int).toNat=A.length+1:=by omega
  have t3:((A.length:Nat):Int).toNat=A.length:=by omega
  have t4:((N+1:Nat):Int).toNat=N+1:=by omega
  have k1:(A++b::B).take A.length=A:=List.take_left' rfl
  have k2:(A++b::B).drop A.length=b::B:=List.drop_left' rfl
  have k3:(A++b::B).take N=A++b::B:=List.take_of_length_le (by omega)
  rw [k1,k2] at hq
  refine W.req_i (by omega) (fun c hc=>?_)
  rw [w1]
  refine W.dec_i (fun hlt=>?_) (fun hge=>?_)
  ·rw [w2,w3]
   simp only [t1,t2,t3,k1,k2,k3]
   have r1:List.replicate (N+1-A.length) zObject=zObject::List.replicate (B.length+1) zObject:=by
    rw [show N+1-A.length=(B.length+1)+1 by omega];rfl
   rw [r1]
   generalize hR:List.replicate (B.length+1) zObject=R
   have eR:R.length=B.length+1:=by rw [← hR];simp
   have e1:(A++zObject::R).length=N+1:=by simp;omega
   have e2:(A++zObject::R).take A.length=A:=List.take_left' rfl
   have e3:(A++zObject::R).drop (A.length+([o]:List Object).length)=R:=by
    rw [show A++zObject::R=(A++[zObject])++R by simp]
    exact List.drop_left' (by simp)
   simp only [e1,e2,e3]
   have f1:(A++[o]++R).length=N+1:=by simp;omega
   have f2:(A++[o]++R).take (A.length+1)=A++[o]:=List.take_left' (by simp)
   have f3:(A++[o]++R).drop (A.length+1+(b::B).length)=[]:=List.drop_eq_nil_of_le (by rw [f1];simp;omega)
   have f4:(b::B).length=B.length+1:=rfl
   simp only [f1,f2,f3]
   refine W.req_i ?_ (W.req_i ?_ (W.req_i ?_ (W.req_i ?_ (W.req_i ?_ (W.req_i ?_ (W.req_i ?_ (W.req_i ?_ ?k)))))))
   case k=>
    show Q (A++[o]++b::B++[])
    simpa using hq
   all_goals clear k1 k2 k3 hq hR r1 e2 e3 f2 f3 w1 w2 w3
   all_goals omega
  ·rw [w3]
   have g1:(A++b::B).take (A.length+1)++b::B=A++b::b::B:=by
    rw [show A++b::B=(A++[b])++B by simp,List.take_left' (by simp)];simp
   have g2:(A++b::b::B).take A.length=A:=List.take_left' rfl
   have g3:(A++b::b::B).drop (A.length+([o]:List Object).length)=b::B:=by
    rw [show A++b::b::B=(A++[b])++b::B by simp]
    exact List.drop_left' (by simp)
   have g4:(A++b::b::B).length=N+1:=by simp;omega
   simp only [t2,t3,t4,k2,g1,g2,g3,g4]
   refine W.req_i ?_ (W.req_i ?_ (W.req_i ?_ (W.req_i ?_ (W.req_i ?_ (W.req_i ?_ (W.req_i ?_ (W.req_i ?_ ?k)))))))
   case k=>
    show Q (A++[o]++b::B)
    simpa using hq
   all_goals clear k1 k2 k3 hq g1 g2 g3 w1 w2 w3
   all_goals omega
theorem clone_b {l:List Object} (hl:l.length≤1000000) {Q:List Object→Prop} (hq:Q l):qd.F l Q:=by
 intro b hb
 refine W.ite_i (fun h=>?_) (fun _=>W.req_i (by simp only [List.length_nil];omega) hq)
 rw [hb h] at hq
 exact hq
theorem atlas_Put_b {m:Map} (h:MapOk m) (hf:MapFit m) {o:Object} (hfo:ObjFit o) {Q:Map×Int→Prop}
  (hbad:¬ ObjOk o→Q (⟨[]⟩,1)) (hset:ObjOk o→∀ j,Holds m o.Id j→Q (⟨m.Objects.set j o⟩,0)) (hfull:m.Objects.length=1000000→Q (⟨[]⟩,2))
  (hins:ObjOk o→(¬ ∃ j,Holds m o.Id j)→∀ i,Spot m o.Id i→Q (⟨m.Objects.take i++o::m.Objects.drop i⟩,0)):zo.F m o Q:=by
 have hl:=h.few
 refine W.bind_i (atlas_valid_b hf fun b hb=>?_)
 have hbt:b=true:=hb.2 h
 subst hbt
 refine W.bind_i (object_Valid_b hfo fun b2 hb2=>?_)
 show W.ite (!b2) _ _ Q
 refine W.ite_i (fun k=>hbad fun e=>by rw [hb2.2 e] at k;cases k) (fun k=>?_)
 have ho:ObjOk o:=hb2.1 (by simpa using k)
 refine W.bind_i (atlas_at_b h fun i hi b3 hb3=>W.bind_i (clone_b hl ?_))
 refine W.ite_i (fun k3=>?_) (fun k3=>?_)
 ·have hx:=hb3.1 k3
  have:=hx.1
  refine W.req_i (by show 0≤(i:Int)∧_;omega) (W.req_i (by show 0≤(i:Int)∧_;omega) ?_)
  show Q (⟨m.Objects.set (i:Int).toNat o⟩,0)
  rw [show (i:Int).toNat=i by omega]
  exact hset ho i hx
 ·have hnx:¬ ∃ j,Holds m o.Id j:=by
   rintro ⟨j,hj,e⟩
   by_cases e1:j<i
   ·have:=hi.lo j e1;rw [e,sLt_irr] at this;cases this
   ·by_cases e2:j=i
    ·subst e2
     have:Holds m o.Id j:=⟨hj,e⟩
     rw [hb3.2 this] at k3;cases k3
    ·have:=hi.hi i (Nat.le_refl _) (by omega)
     have h2:=h.lt (show i<j by omega) hj
     rw [e] at h2
     rw [h2] at this;cases this
  refine W.ite_i (fun k4=>hfull (by simp at k4;omega)) (fun k4=>?_)
  exact W.bind_i (insert_b hl hi.le (hins ho hnx i hi))
end Go.Gp.Gb
end
section
set_option linter.unusedVariables false
set_option linter.unusedSimpArgs false
set_option maxRecDepth 10000
namespace Go.Gp.Gb
open Geo
open Classical in
theorem own_o {m:Map} {s:Key} {a:ByteArray}:a∈owners m s↔∃ p∈m.Objects,SoundP m p∧s∈sides p∧p.Id=a:=by
 rw [own_obj]
 constructor
 ·intro h
  obtain ⟨p,hp,rfl⟩:=List.mem_map.1 h
  obtain ⟨h1,h2⟩:=List.mem_filter.1 hp
  rw [decide_eq_true_eq] at h2
  exact ⟨p,h1,h2.1,h2.2,rfl⟩
 ·rintro ⟨p,hp,h1,h2,rfl⟩
  exact List.mem_map.2 ⟨p,List.mem_filter.2 ⟨hp,decide_eq_true ⟨h1,h2⟩⟩,rfl⟩
theorem holds_mem {m:Map} {id:ByteArray}:(∃ j,Holds m id j)↔∃ p∈m.Objects,p.Id=id:=by
 constructor
 ·rintro ⟨j,hj,e⟩;exact ⟨_,ob_mem hj,e⟩
 ·rintro ⟨p,hp,e⟩
  obtain ⟨j,hj,rfl⟩:=mem_ob hp
  exact ⟨j,hj,e⟩
structure AddM (m m':Map) (o:Object):Prop where
 mem:∀ p,p∈m'.Objects↔p=o∨p∈m.Objects
 ok:MapOk m
 ok':MapOk m'
 kind:o.Kind≠1
 new:∀ p∈m.Objects,p.Id≠o.Id
theorem add_of {m:Map} (h:MapOk m) (hl:m.Objects.length<1000000) {o:Object} (ho:ObjOk o) {i:Nat} (hs:Spot m o.Id i) (hn:¬ ∃ j,Holds m o.Id j) (hk:o.Kind≠1):AddM m ⟨m.Objects.take i++o::m.Objects.drop i⟩ o:=by
 have hm:∀ p,p∈m.Objects.take i++o::m.Objects.drop i↔p=o∨p∈m.Objects:=fun p=>by
  conv=>rhs;rw [← List.take_append_drop i m.Objects]
  simp only [List.mem_append,List.mem_cons]
  constructor
  ·rintro (q | q | q)
   ·exact .inr (.inl q)
   ·exact .inl q
   ·exact .inr (.inr q)
  ·rintro (q | q | q)
   ·exact .inr (.inl q)
   ·exact .inl q
   ·exact .inr (.inr q)
 have hnew:∀ p∈m.Objects,p.Id≠o.Id:=fun p hp e=>hn (holds_mem.2 ⟨p,hp,e⟩)
 have ho3:=ok_mem.1 h
 refine ⟨hm,h,ok_mem.2 ⟨?_,fun p hp=>?_,?_⟩,hk,hnew⟩
 ·show (m.Objects.take i++o::m.Objects.drop i).length≤1000000
  have:=hs.le
  rw [List.length_append,List.length_cons,List.length_take,List.length_drop]
  omega
 ·rcases (hm p).1 hp with rfl | hp
  ·exact ho
  ·exact ho3.2.1 p hp
 ·have hp:=ho3.2.2
  rw [← List.take_append_drop i m.Objects,List.pairwise_append] at hp
  show (m.Objects.take i++o::m.Objects.drop i).Pairwise _
  rw [List.pairwise_append,List.pairwise_cons]
  have lo:∀ p∈m.Objects.take i,sLt p.Id o.Id=true:=fun p hp=>by
   obtain ⟨j,hj,rfl⟩:=List.mem_iff_getElem.1 hp
   rw [List.length_take] at hj
   rw [List.getElem_take]
   have:=hs.lo j (by omega)
   unfold ob at this
   rw [rd_nat (by omega)] at this
   exact this
  have hi:∀ p∈m.Objects.drop i,sLt o.Id p.Id=true:=fun p hp=>by
   have hpm:=List.mem_of_mem_drop hp
   obtain ⟨j,hj,rfl⟩:=List.mem_iff_getElem.1 hp
   rw [List.length_drop] at hj
   have h1:=hs.hi (i+j) (by omega) (by omega)
   unfold ob at h1
   rw [rd_nat (by omega)] at h1
   rw [List.getElem_drop] at hpm ⊢
   rcases sLt_tri m.Objects[i+j].Id o.Id with q | q | q
   ·rw [q] at h1;cases h1
   ·exact absurd q (hnew _ hpm)
   ·exact q
  refine ⟨hp.1,⟨hi,hp.2.1⟩,fun a ha b hb=>?_⟩
  rcases List.mem_cons.1 hb with rfl | hb
  ·exact lo a ha
  ·exact sLt_trans (lo a ha) (hi b hb)
section
variable {m m' : Map} {o : Object}
theorem AddM.nd (h:AddM m m' o) {id:ByteArray}:Nd m' id↔Nd m id:=by
 rw [nd_mem,nd_mem]
 constructor
 ·rintro ⟨p,hp,e,hk⟩
  rcases (h.mem p).1 hp with rfl | hp
  ·exact absurd hk h.kind
  ·exact ⟨p,hp,e,hk⟩
 ·rintro ⟨p,hp,e,hk⟩;exact ⟨p,(h.mem p).2 (.inr hp),e,hk⟩
theorem AddM.sound (h:AddM m m' o) {p:Object}:SoundP m' p↔SoundP m p:=⟨fun k i hi=>h.nd.1 (k i hi),fun k i hi=>h.nd.2 (k i hi)⟩
theorem AddM.own (h:AddM m m' o) {s:Key} {a:ByteArray}:a∈owners m' s↔a∈owners m s∨(a=o.Id∧SoundP m o∧s∈sides o):=by
 rw [own_o,own_o]
 constructor
 ·rintro ⟨p,hp,h1,h2,rfl⟩
  rcases (h.mem p).1 hp with rfl | hp
  ·exact .inr ⟨rfl,h.sound.1 h1,h2⟩
  ·exact .inl ⟨p,hp,h.sound.1 h1,h2,rfl⟩
 ·rintro (⟨p,hp,h1,h2,rfl⟩ | ⟨rfl,h1,h2⟩)
  ·exact ⟨p,(h.mem p).2 (.inr hp),h.sound.2 h1,h2,rfl⟩
  ·exact ⟨o,(h.mem o).2 (.inl rfl),h.sound.2 h1,h2,rfl⟩
theorem AddM.pos (h:AddM m m' o) {id:ByteArray} (hn:Nd m id):Gb.pos m' id=Gb.pos m id:=by
 obtain ⟨p,hp,rfl,_⟩:=nd_mem.1 hn
 rw [pos_mem h.ok hp,pos_mem h.ok' ((h.mem p).2 (.inr hp))]
theorem AddM.nodes (h:AddM m m' o) {s:Key} (hs:owners m' s≠[]):Nd m s.1∧Nd m s.2:=⟨h.nd.1 (own_nodes hs).1,h.nd.1 (own_nodes hs).2⟩
theorem AddM.sg (h:AddM m m' o) {s:Key} (hs:owners m' s≠[]):Gb.sg m' s=Gb.sg m s:=by
 have:=h.nodes hs
 unfold Gb.sg
 rw [h.pos this.1,h.pos this.2]
end
theorem bad_pair {m:Map} {s t:Key} (hs:owners m s≠[]) (ht:owners m t≠[]) (h:(s≠t∧∃ n,MeetsR (sg m s) (sg m t) n∧¬ OrdN n s t)∨∃ a,(a=s.1∨a=s.2)∧∃ b,(b=t.1∨b=t.2)∧a≠b∧pos m a=pos m b):∃ ids,BadI m ids:=by
 rcases h with ⟨hne,n,hn,ho⟩ | ⟨a,ha,b,hb,hne,hp⟩
 ·obtain ⟨a,ha⟩:=List.exists_mem_of_ne_nil _ hs
  obtain ⟨b,hb⟩:=List.exists_mem_of_ne_nil _ ht
  exact ⟨_,s,t,hs,ht,.inl ⟨hne,⟨n,hn,ho⟩,a,ha,b,hb,rfl⟩⟩
 ·exact ⟨_,s,t,hs,ht,.inr ⟨a,ha,b,hb,hne,hp,rfl⟩⟩
theorem pair_bad {m:Map} {ids:Ids} (h:BadI m ids):∃ s t,owners m s≠[]∧owners m t≠[]∧((s≠t∧∃ n,MeetsR (sg m s) (sg m t) n∧¬ OrdN n s t)∨∃ a,(a=s.1∨a=s.2)∧∃ b,(b=t.1∨b=t.2)∧a≠b∧pos m a=pos m b):=by
 obtain ⟨s,t,hs,ht,hh⟩:=h
 refine ⟨s,t,hs,ht,?_⟩
 rcases hh with ⟨hne,⟨n,hn,ho⟩,_⟩ | ⟨a,ha,b,hb,hne,hp,_⟩
 ·exact .inl ⟨hne,n,hn,ho⟩
 ·exact .inr ⟨a,ha,b,hb,hne,hp⟩
end Go.Gp.Gb
end
section
set_option linter.unusedVariables false
set_option linter.unusedSimpArgs false
set_option maxRecDepth 10000
namespace Go.Gp.Gb
open Geo
theorem okI_u8 {n:Int} (h:okI .u8 n):0≤n∧n≤255:=by
 unfold okI Lit.wf at h
 rw [Bool.and_eq_true,decide_eq_true_eq,decide_eq_true_eq] at h
 exact ⟨h.1,h.2⟩
theorem place {raw:Int} {n:Nat} (hr:0≤raw∧raw≤255) (h0:n≠0):∃ i:Nat,i<n∧Int.tmod (w64 raw) (n:Int)=(i:Int):=by
 obtain ⟨r,rfl⟩:=Int.eq_ofNat_of_zero_le hr.1
 refine ⟨r % n,Nat.mod_lt _ (by omega),?_⟩
 rw [w64_id (by omega) (by omega),← Int.ofNat_tmod]
abbrev rev (t:Segment):Segment:=⟨t.B,t.A⟩
theorem on_rev {t:Segment} {p:Point}:On (rev t) p↔On t p:=by
 unfold On Bx rev
 show _∧crs t.B t.A p=0↔_
 rw [crs_swap]
 constructor<;>(rintro ⟨⟨h1,h2⟩,h3⟩;exact ⟨⟨h1.symm,h2.symm⟩,by omega⟩)
theorem end_rev {t:Segment} {p:Point}:IsEnd (rev t) p↔IsEnd t p:=or_comm
theorem com_rev {s t:Segment} {p:Point}:Com s (rev t) p↔Com s t p:=by
 unfold Com
 rw [on_rev,end_rev]
theorem near_rev {s t:Segment}:(NearS s∧NearS (rev t))↔(NearS s∧NearS t):=by
 unfold NearS
 exact ⟨fun h=>⟨h.1,h.2.symm⟩,fun h=>⟨h.1,h.2.symm⟩⟩
theorem same_rev {s t:Segment}:SameEnds s (rev t)↔SameEnds s t:=by
 unfold SameEnds rev
 exact ⟨fun h=>h.symm,fun h=>h.symm⟩
theorem proper_rev {s t:Segment}:Proper s (rev t)↔Proper s t:=by
 unfold Proper rev
 show crs s.A s.B t.B*crs s.A s.B t.A<0∧crs t.B t.A s.A*crs t.B t.A s.B<0↔_
 rw [crs_swap t.A t.B s.A,crs_swap t.A t.B s.B,Int.mul_comm (crs s.A s.B t.B),Int.neg_mul_neg]
theorem Geo.MeetsR.rev {s t:Segment} {n:Int} (h:MeetsR s t n):MeetsR s (Gb.rev t) n:=by
 cases h with
 | far h=>exact .far (fun k=>h (near_rev.1 k))
 | same n h=>exact .same (near_rev.2 n) (same_rev.2 h)
 | over n h p q hne hp hq=>exact .over (near_rev.2 n) (fun k=>h (same_rev.1 k)) p q hne (com_rev.2 hp) (com_rev.2 hq)
 | end_ n h p hp u e=>exact .end_ (near_rev.2 n) (fun k=>h (same_rev.1 k)) p (com_rev.2 hp) (fun q hq=>u q (com_rev.1 hq)) ⟨e.1,end_rev.2 e.2⟩
 | touch n h p hp u e=>exact .touch (near_rev.2 n) (fun k=>h (same_rev.1 k)) p (com_rev.2 hp) (fun q hq=>u q (com_rev.1 hq)) (fun k=>e ⟨k.1,end_rev.1 k.2⟩)
 | cross n h no c=>exact .cross (near_rev.2 n) (fun k=>h (same_rev.1 k)) (fun p hp=>no p (com_rev.1 hp)) (proper_rev.2 c)
 | none n h no c=>exact .none (near_rev.2 n) (fun k=>h (same_rev.1 k)) (fun p hp=>no p (com_rev.1 hp)) (fun k=>c (proper_rev.1 k))
theorem Geo.MeetsR.rev' {s t:Segment} {n:Int}:MeetsR s (Gb.rev t) n↔MeetsR s t n:=⟨fun h=>h.rev,fun h=>h.rev⟩
theorem key_or (a b:ByteArray):key a b=(a,b)∨key a b=(b,a):=by
 unfold key
 rcases sLt_tri a b with h | h | h
 ·rw [(sMin_lt h).1,(sMin_lt h).2.1];exact .inl rfl
 ·subst h
  rcases sMin_or a a with q | q<;>rcases sMax_or a a with q' | q'<;>(rw [q,q'];exact .inl rfl)
 ·rw [(sMin_lt h).2.2.1,(sMin_lt h).2.2.2];exact .inr rfl
theorem sg_key {m:Map} {a b:ByteArray} {s:Segment} {n:Int}:MeetsR s (sg m (key a b)) n↔MeetsR s ⟨pos m a,pos m b⟩ n:=by
 rcases key_or a b with e | e<;>rw [e]
 ·exact Iff.rfl
 ·exact MeetsR.rev' (t:=⟨pos m a,pos m b⟩)
theorem key_ends {a b x:ByteArray}:(x=(key a b).1∨x=(key a b).2)↔(x=a∨x=b):=by
 rcases key_or a b with e | e<;>rw [e]
 exact or_comm
theorem own_key {m:Map} {s:Key} (h:owners m s≠[]):key s.1 s.2=s:=by
 obtain ⟨a,ha⟩:=List.exists_mem_of_ne_nil _ h
 obtain ⟨p,_,_,h2,_⟩:=own_o.1 ha
 unfold sides at h2
 split at h2
 ·obtain ⟨i,_,rfl⟩:=List.mem_map.1 h2
  exact key_key _ _
 ·simp at h2
theorem key_eq {a b:ByteArray} {s:Key} (hs:key s.1 s.2=s) (h:(a=s.1∧b=s.2)∨(a=s.2∧b=s.1)):key a b=s:=by
 rcases h with ⟨rfl,rfl⟩ | ⟨rfl,rfl⟩
 ·exact hs
 ·exact (key_comm s.2 s.1).trans hs
def OnB (m:Map) (a:ByteArray):Prop:=∃ s,owners m s≠[]∧(a=s.1∨a=s.2)
theorem OnB.nd {m:Map} {a:ByteArray} (h:OnB m a):Nd m a:=by
 obtain ⟨s,hs,e⟩:=h
 have:=own_nodes hs
 exact e.elim (fun e=>e ▸ this.1) (fun e=>e ▸ this.2)
theorem OnB.apart {m:Map} (nb:∀ ids,¬ BadI m ids) {a b:ByteArray} (ha:OnB m a) (hb:OnB m b) (hp:pos m a=pos m b):a=b:=by
 obtain ⟨s,hs,ea⟩:=ha
 obtain ⟨t,ht,eb⟩:=hb
 refine Classical.byContradiction fun hne=>?_
 obtain ⟨ids,h⟩:=bad_pair hs ht (.inr ⟨a,ea,b,eb,hne,hp⟩)
 exact nb ids h
theorem ordn {m:Map} (nb:∀ ids,¬ BadI m ids) {s t:Key} (hs:owners m s≠[]) (ht:owners m t≠[]) (hne:s≠t) {n:Int} (h:MeetsR (sg m s) (sg m t) n):OrdN n s t:=by
 refine Classical.byContradiction fun ho=>?_
 obtain ⟨ids,hb⟩:=bad_pair hs ht (.inl ⟨hne,n,h,ho⟩)
 exact nb ids hb
theorem same_okn {s t:Segment} (h:SameEnds s t) {n:Int} (hn:MeetsR s t n):Okn n:=by
 cases hn with
 | far h=>exact .inl rfl
 | same n h=>exact .inr (.inr rfl)
 | over n h'=>exact absurd h h'
 | end_ n h'=>exact absurd h h'
 | touch n h'=>exact absurd h h'
 | cross n h'=>exact absurd h h'
 | none n h'=>exact absurd h h'
theorem border_free {m:Map} (h:MapOk m) (nb:∀ ids,¬ BadI m ids) {L:List Key} (hL:Ks (owners m) L) {s:Key} (hs:s∈L):FreeP m (sg m s):=by
 have ns:=ks_nodes hL hs
 refine ⟨h,⟨pos_near h ns.1,pos_near h ns.2⟩,fun L' hL' k hk n hn=>?_⟩
 have:=hL.unique hL'
 subst this
 by_cases e:k=s
 ·subst e;exact same_okn (.inl ⟨rfl,rfl⟩) hn
 ·rcases ordn nb ((hL.mem k).1 hk) ((hL.mem s).1 hs) e hn with q | q
  ·exact .inl q
  ·exact .inr (.inl q.1)
theorem free_iff {m m':Map} {o:Object} {na nb:ByteArray} (hadd:AddM m m' o) (hsd:sides o=[key na nb]) (hso:SoundP m o) (nob:∀ ids,¬ BadI m ids) (ha:OnB m na) (hb:OnB m nb) (hne:na≠nb) {L:List Key} (hL:Ks (owners m) L):FreeP m ⟨pos m na,pos m nb⟩↔∀ ids,¬ BadI m' ids:=by
 have hown:∀ s,owners m' s≠[]↔owners m s≠[]∨s=key na nb:=fun s=>by
  constructor
  ·intro h
   obtain ⟨a,ha⟩:=List.exists_mem_of_ne_nil _ h
   rcases hadd.own.1 ha with q | ⟨_,_,q⟩
   ·exact .inl (List.ne_nil_of_mem q)
   ·rw [hsd] at q;exact .inr (by simpa using q)
  ·rintro (h | rfl)
   ·obtain ⟨a,ha⟩:=List.exists_mem_of_ne_nil _ h
    exact List.ne_nil_of_mem (hadd.own.2 (.inl ha))
   ·exact List.ne_nil_of_mem (hadd.own.2 (.inr ⟨rfl,hso,by rw [hsd];simp⟩))
 have hk0:owners m' (key na nb)≠[]:=(hown _).2 (.inr rfl)
 have hon:∀ s,owners m' s≠[]→∀ a,(a=s.1∨a=s.2)→OnB m a:=fun s hs a h=>by
  rcases (hown s).1 hs with q | rfl
  ·exact ⟨s,q,h⟩
  ·rcases key_ends.1 h with rfl | rfl
   ·exact ha
   ·exact hb
 constructor
 ·rintro ⟨_,_,hfree⟩ ids hbad
  obtain ⟨s,t,hs,ht,hh⟩:=pair_bad hbad
  rw [hadd.sg hs,hadd.sg ht] at hh
  rcases hh with ⟨hst,n,hn,ho⟩ | ⟨a,ea,b,eb,hab,hp⟩
  ·
   have go:∀ s n,owners m s≠[]→s≠key na nb→MeetsR (sg m s) (sg m (key na nb)) n→OrdN n s (key na nb):=fun s n hs hsk hn=>by
    have hn0:=sg_key.1 hn
    rcases hfree L hL s ((hL.mem s).2 hs) n hn0 with q | q | q
    ·exact .inl q
    ·subst q
     refine .inr ⟨rfl,?_⟩
     cases hn0 with
     | end_ nn h p hp u e=>
      obtain ⟨e1,e2⟩:=e
      have x:∃ x,(x=s.1∨x=s.2)∧p=pos m x:=by
       rcases e1 with q | q
       ·exact ⟨s.1,.inl rfl,q⟩
       ·exact ⟨s.2,.inr rfl,q⟩
      have y:∃ y,(y=na∨y=nb)∧p=pos m y:=by
       rcases e2 with q | q
       ·exact ⟨na,.inl rfl,q⟩
       ·exact ⟨nb,.inr rfl,q⟩
      obtain ⟨x,hx,px⟩:=x
      obtain ⟨y,hy,py⟩:=y
      have hy2:OnB m y:=hy.elim (fun e=>e ▸ ha) (fun e=>e ▸ hb)
      have:=OnB.apart nob ⟨s,hs,hx⟩ hy2 (px.symm.trans py)
      subst this
      have hxk:=key_ends.2 hy
      unfold ShareP
      rcases hx with rfl | rfl<;>rcases hxk with q | q
      ·exact .inl q
      ·exact .inr (.inl q)
      ·exact .inr (.inr (.inl q))
      ·exact .inr (.inr (.inr q))
    ·subst q
     cases hn0 with
     | same nn h=>
      refine absurd ?_ hsk
      have o1:OnB m s.1:=⟨s,hs,.inl rfl⟩
      have o2:OnB m s.2:=⟨s,hs,.inr rfl⟩
      rcases h with ⟨q1,q2⟩ | ⟨q1,q2⟩
      ·exact (key_eq (own_key hs) (.inl ⟨(OnB.apart nob o1 ha q1).symm,(OnB.apart nob o2 hb q2).symm⟩)).symm
      ·exact (key_eq (own_key hs) (.inr ⟨(OnB.apart nob o2 ha q2).symm,(OnB.apart nob o1 hb q1).symm⟩)).symm
   rcases (hown s).1 hs with hs' | hs'
   ·rcases (hown t).1 ht with ht' | ht'
    ·exact ho (ordn nob hs' ht' hst hn)
    ·subst ht';exact ho (go s n hs' hst hn)
   ·subst hs'
    rcases (hown t).1 ht with ht' | ht'
    ·exact ho (go t n ht' (fun e=>hst e.symm) hn.symm).symm
    ·exact hst ht'.symm
  ·have oa:=hon s hs a ea
   have ob':=hon t ht b eb
   rw [hadd.pos oa.nd,hadd.pos ob'.nd] at hp
   exact hab (OnB.apart nob oa ob' hp)
 ·intro hno
  refine ⟨hadd.ok,⟨pos_near hadd.ok ha.nd,pos_near hadd.ok hb.nd⟩,fun L' hL' k hk n hn=>?_⟩
  have:=hL.unique hL'
  subst this
  have hkm:=(hL.mem k).1 hk
  by_cases e:k=key na nb
  ·have hs2:SameEnds (sg m k) ⟨pos m na,pos m nb⟩:=by
    rw [e]
    rcases key_or na nb with q | q<;>rw [q]
    ·exact .inl ⟨rfl,rfl⟩
    ·exact .inr ⟨rfl,rfl⟩
   exact same_okn hs2 hn
  ·have hk':owners m' k≠[]:=(hown k).2 (.inl hkm)
   have hn':=sg_key.2 hn
   have:MeetsR (sg m' k) (sg m' (key na nb)) n:=by rw [hadd.sg hk',hadd.sg hk0];exact hn'
   rcases ordn hno hk' hk0 e this with q | q
   ·exact .inl q
   ·exact .inr (.inl q.1)
theorem way_sides {id na nb:ByteArray}:sides (⟨id,2,zPoint,[na,nb],[]⟩:Object)=[key na nb]:=rfl
theorem ends_pts {L:List Key} {i:Nat} {m:Map} (hi:i<L.length):(Ends L (i+1)).map (pos m)=(Ends L i).map (pos m)++[pos m (kx L i).1,pos m (kx L i).2]:=by
 rw [ends_succ hi,List.map_append];rfl
theorem free_refs {m:Map} (h:MapOk m) {id:ByteArray} {r1:Bool} {K:W Bool} {Q:Bool→Prop} (hq:Q r1) (hk:K Q):(W.ex fun n=>W.iter1 (Vb.l1 m id r1 K) n (0:Int)) Q:=by
 have hl:=h.few
 refine W.up1 m.Objects.length (fun _=>True) trivial (fun K1 i hi _ hK1=>?_)
 refine W.dec_i (fun hlt=>?_) (fun _=>hk)
 have hi':i<m.Objects.length:=by omega
 have hc:=(h.each i hi').count.1
 refine W.up1 (ob m i).Refs.length (fun _=>True) trivial (fun K2 k hk2 _ hK2=>?_)
 refine W.req_i ⟨by omega,hlt⟩ (W.dec_i (fun hlt2=>W.req_i ⟨by omega,hlt⟩ (W.req_i ⟨by omega,hlt2⟩ (W.ite_i (fun _=>hq) (fun _=>?_)))) (fun _=>?_))
 ·have:(k:Int)<((ob m i).Refs.length:Int):=hlt2
  rw [w64_succ (by omega)]
  exact hK2 (by omega) trivial
 ·show K1 (w64 ((i:Int)+1)) Q
  rw [w64_succ (by omega)]
  exact hK1 hi' trivial
theorem law_borderfree {m:Map} {one two:Int} {id:ByteArray} (hm:ok_Map m) (h1:okI .u8 one) (h2:okI .u8 two) (hid:okS id):Vb.F m one two id (fun r=>r=true):=by
 have hf:=fit_of hm
 have hone:=okI_u8 h1
 have htwo:=okI_u8 h2
 refine W.bind_i (head_b (W.bind_i (ref13_Few_b hf (by decide) fun b hb=>W.bind_i ?_)))
 cases b with
 | false=>exact rfl
 | true=>
  have hfew:=hb rfl
  have hlen:m.Objects.length≤24:=by have:=hfew.few;omega
  show qj.F m _
  refine atlas_Valid_b hf fun b2 hb2=>W.bind_i ?_
  cases b2 with
  | false=>exact rfl
  | true=>
   have h:MapOk m:=hb2.1 rfl
   refine border_Check_b hf hfew (fun k=>absurd h k) fun _ V hV1 hV2 hV3=>W.bind_i ?_
   cases hA:((((!true)||(!true))||(decide ((0:Int)<((V.map viol).length:Int))))||(decide ((24:Int)<(id.size:Int)))) with
   | true=>exact rfl
   | false=>
    rw [Bool.or_eq_false_iff,Bool.or_eq_false_iff] at hA
    obtain ⟨⟨_,hA3⟩,hA4⟩:=hA
    have hVn:V=[]:=by
     rw [List.length_map,decide_eq_false_iff_not] at hA3
     exact List.eq_nil_of_length_eq_zero (by omega)
    have nob:∀ ids,¬ BadI m ids:=fun ids hi=>by
     have:=(hV2 ids).2 hi
     rw [hVn] at this;simp at this
    show ja4.F m id _
    refine atlas_Find_b (by omega) (fun hno=>?_) (fun j hj _=>W.ite_i (fun _=>rfl) (fun k=>by rw [Bool.or_eq_false_iff,decide_eq_false_iff_not] at k;omega))
    refine W.ite_i (fun _=>rfl) (fun _=>W.bind_i ?_)
    refine ref13_Borders_b hf (fun k=>absurd h k) fun _ L hL hll=>?_
    refine W.up3 L.length (fun i x y=>x=Ends L i∧y=(Ends L i).map (pos m)) ⟨by simp [Ends],by simp [Ends]⟩ (fun K i x y hi hI hK=>?_)
    obtain ⟨rfl,rfl⟩:=hI
    have hel:=ends_len (L:=L) i
    refine W.dec_i (fun hlt=>?_) (fun hge=>?_)
    ·have hlt':=hlt
     rw [List.length_map] at hlt'
     have hi':i<L.length:=by omega
     have er:rd Je (L.map (bd m (owners m))) (i:Int)=bd m (owners m) (kx L i):=rd_mapk hi'
     have hx:0≤(i:Int)∧(i:Int)<((L.map (bd m (owners m))).length:Int):=⟨by omega,hlt⟩
     refine W.req_i hx (W.req_i (by simp only [List.length_cons,List.length_nil];omega) (W.req_i hx (W.req_i (by simp only [List.length_cons,List.length_nil,List.length_map];omega) (W.req_i hx (W.bind_i ?_)))))
     rw [er]
     show wt.F m (sg m (kx L i)) _
     refine border_Free_b hf fun b3 hb3=>?_
     have:b3=true:=hb3.2 (border_free h nob hL (kx_mem hi'))
     subst this
     refine W.ite_i (fun k=>by simp at k) (fun _=>?_)
     rw [w64_succ (by omega)]
     refine hK hi' _ _ ⟨?_,?_⟩
     ·rw [ends_succ hi'];rfl
     ·rw [ends_pts hi'];rfl
    ·rw [List.length_map] at hge
     have hil:i=L.length:=by omega
     subst hil
     obtain ⟨N,hN⟩:∃ N,N=Ends L L.length:=⟨_,rfl⟩
     rw [← hN] at hel ⊢
     refine W.ite_i (fun _=>rfl) (fun k=>?_)
     have hN0:N.length≠0:=by intro e;rw [e] at k;simp at k
     obtain ⟨a,ha,ea⟩:=place hone hN0
     obtain ⟨b,hb',eb⟩:=place htwo hN0
     unfold Vb.c2 Vb.c3
     rw [ea,eb,rd_nat ha,rd_nat hb',rd_map ha,rd_map hb']
     have onb:∀ i (hi:i<N.length),OnB m N[i]:=fun i hi=>by
      have:N[i]∈Ends L L.length:=by rw [← hN];exact List.getElem_mem hi
      obtain ⟨s,hs,e⟩:=mem_ends.1 this
      exact ⟨s,(hL.mem s).1 hs,e⟩
     have oa:=onb a ha
     have ob':=onb b hb'
     generalize N[a]=na at *
     generalize N[b]=nb at *
     have hxa:0≤(a:Int)∧(a:Int)<(N.length:Int):=⟨by omega,by omega⟩
     have hxb:0≤(b:Int)∧(b:Int)<(N.length:Int):=⟨by omega,by omega⟩
     refine W.req_i (by omega) (W.req_i (by omega) (W.req_i hxa (W.req_i hxb (W.bind_i ?_))))
     obtain ⟨o,ho⟩:∃ o,o=(⟨id,2,zPoint,[na,nb],[]⟩:Object):=⟨_,rfl⟩
     show (W.bind (zo.F m (⟨id,2,zPoint,[na,nb],[]⟩:Object)) _) _
     rw [← ho]
     have hoid:o.Id=id:=by rw [ho]
     have hsz:∀ x,OnB m x→x.size≤maxLen:=fun x hx=>by
      obtain ⟨j,hj,_⟩:=hx.nd
      rw [← hj.2]
      exact (hf.each j hj.1).id
     have hfo:ObjFit o:=by
      rw [ho]
      refine ⟨hid,by simp [maxLen_val],fun i hi=>?_,by simp,fun i hi=>by simp at hi⟩
      rcases (show i=0∨i=1 by simp at hi;omega) with rfl | rfl
      ·exact hsz _ oa
      ·exact hsz _ ob'
     refine atlas_Put_b h hf hfo (fun _=>?_) (fun _ j hj=>absurd ⟨j,by rw [hoid] at hj;exact hj⟩ hno) (fun e=>by omega) (fun hoo hnx i hsp=>?_)
     ·exact ⟨(fun k=>by simp at k),(fun k=>by simp at k),rfl⟩
     ·have hadd:=add_of h (by omega) hoo hsp hnx (by rw [ho];show (2:Int)≠1;decide)
      generalize hm':(⟨m.Objects.take i++o::m.Objects.drop i⟩:Map)=m' at hadd
      have hlen':m'.Objects.length=m.Objects.length+1:=by
       rw [← hm'];have:=hsp.le
       show (m.Objects.take i++o::m.Objects.drop i).length=_
       rw [List.length_append,List.length_cons,List.length_take,List.length_drop];omega
      have hfew':FewP m' 40:=⟨by omega,fun j hj=>by
       rcases (hadd.mem _).1 (ob_mem hj) with e | e
       ·rw [e,ho];show ([na,nb]:Ids).length≤12;simp
       ·obtain ⟨k,hk,e2⟩:=mem_ob e
        rw [← e2];exact hfew.refs k hk⟩
      refine W.req_i (fun _=>hxa) (W.req_i (fun _=>hxb) (W.ite_i (fun _=>rfl) (fun hne=>?_)))
      have hne':na≠nb:=by
       rw [Bool.or_eq_false_iff] at hne
       exact sEq_false.mp hne.2
      refine free_refs h rfl ?_
      have hxa':0≤(a:Int)∧(a:Int)<((N.map (pos m)).length:Int):=by rw [List.length_map];exact hxa
      have hxb':0≤(b:Int)∧(b:Int)<((N.map (pos m)).length:Int):=by rw [List.length_map];exact hxb
      refine W.req_i (fun _=>hxa') (W.req_i (fun _=>hxb') (W.bind_i ?_))
      refine border_Free_b hf fun b4 hb4=>W.bind_i ?_
      show Jq.F m' _
      refine border_Check_b40 (fit_ok hadd.ok') hfew' (fun k=>absurd hadd.ok' k) fun _ V' hV1' hV2' hV3'=>?_
      have hso:SoundP m o:=fun i hi=>by
       rw [ho] at hi ⊢
       rcases (show i=0∨i=1 by simp at hi;omega) with rfl | rfl
       ·exact oa.nd
       ·exact ob'.nd
      have key:=free_iff hadd (by rw [ho];exact way_sides) hso nob oa ob' hne' hL
      show (true&&(b4==(((V'.map viol).length:Int)==(0:Int))))=true
      rw [Bool.true_and,beq_iff_eq,Bool.eq_iff_iff,hb4,key,List.length_map,beq_iff_eq]
      constructor
      ·intro hno2
       have:V'=[]:=List.eq_nil_iff_forall_not_mem.2 fun ids hi=>hno2 ids ((hV2' ids).1 hi)
       rw [this];rfl
      ·intro he ids hi
       have h0:V'=[]:=List.eq_nil_of_length_eq_zero (by omega)
       have:=(hV2' ids).2 hi
       rw [h0] at this;simp at this
end Go.Gp.Gb
end
