/- Part. -/
import Derived.Test.YtfophhmfbofjiaaGreatP8x03
import Derived.Lib.Bytealg
section
set_option linter.unusedVariables false
namespace Go.Gp.Gb.Geo
theorem sq_nonneg (x:Int):0≤x*x:=by
 rcases Int.le_total 0 x with h | h
 ·exact Int.mul_nonneg h h
 ·exact Int.mul_nonneg_of_nonpos_of_nonpos h h
theorem par {ux uy vx vy wx wy:Int} (h1:ux*vy=uy*vx) (h2:ux*wy=uy*wx) (h:ux≠0∨uy≠0):vx*wy=vy*wx:=by
 have e1:ux*(vx*wy-vy*wx)=0:=by grind
 have e2:uy*(vx*wy-vy*wx)=0:=by grind
 rcases h with h | h
 ·rcases Int.mul_eq_zero.1 e1 with h' | h'
  ·exact absurd h' h
  ·omega
 ·rcases Int.mul_eq_zero.1 e2 with h' | h'
  ·exact absurd h' h
  ·omega
theorem between {ux uy vx vy wx wy:Int} (h:ux*vy=uy*vx) (hw:wx*uy≠wy*ux∨wx*vy≠wy*vx):(ux*vx≤0∧uy*vy≤0)↔(wx*uy-wy*ux)*(wx*vy-wy*vx)≤0:=by
 have eq:(uy*vy)*((wx*uy-wy*ux)*(wx*vy-wy*vx))=(wx*(uy*vy)-wy*(ux*vy))*(wx*(uy*vy)-wy*(ux*vy)):=by grind
 have ep:(ux*vx)*((wx*uy-wy*ux)*(wx*vy-wy*vx))=(wy*(ux*vx)-wx*(ux*vy))*(wy*(ux*vx)-wx*(ux*vy)):=by grind
 have sq1:=sq_nonneg (wx*(uy*vy)-wy*(ux*vy))
 have sq2:=sq_nonneg (wy*(ux*vx)-wx*(ux*vy))
 rw [← eq] at sq1
 rw [← ep] at sq2
 generalize hE:(wx*uy-wy*ux)*(wx*vy-wy*vx)=e at *
 constructor
 ·rintro ⟨hp,hq⟩
  by_cases hq0:uy*vy=0
  ·have hk:ux*vy=0:=by
    have:(ux*vy)*(ux*vy)=0:=by grind
    rcases Int.mul_eq_zero.1 this with h' | h'<;>exact h'
   have:e=wy*wy*(ux*vx):=by grind
   rw [this]
   exact Int.mul_nonpos_of_nonneg_of_nonpos (sq_nonneg wy) hp
  ·have hq':uy*vy<0:=by omega
   by_cases he:e≤0
   ·exact he
   ·exfalso
    have:uy*vy*e<0:=Int.mul_neg_of_neg_of_pos hq' (by omega)
    omega
 ·intro he
  by_cases he0:e=0
  ·rw [he0] at hE
   have huv:(ux=0∧uy=0)∨(vx=0∧vy=0):=by
    rcases Int.mul_eq_zero.1 hE with h1 | h1
    ·left
     by_cases hu:ux=0∧uy=0
     ·exact hu
     ·exfalso
      have:=par (ux:=ux) (uy:=uy) (vx:=wx) (vy:=wy) (wx:=vx) (wy:=vy) (by grind) h (by omega)
      rcases hw with hw | hw<;>omega
    ·right
     by_cases hv:vx=0∧vy=0
     ·exact hv
     ·exfalso
      have:=par (ux:=vx) (uy:=vy) (vx:=wx) (vy:=wy) (wx:=ux) (wy:=uy) (by grind) (by grind) (by omega)
      rcases hw with hw | hw<;>omega
   rcases huv with ⟨a,b⟩ | ⟨a,b⟩<;>rw [a,b]<;>simp
  ·have he':e<0:=by omega
   constructor
   ·by_cases hp:ux*vx≤0
    ·exact hp
    ·exfalso
     have:ux*vx*e<0:=Int.mul_neg_of_pos_of_neg (by omega) he'
     omega
   ·by_cases hq:uy*vy≤0
    ·exact hq
    ·exfalso
     have:uy*vy*e<0:=Int.mul_neg_of_pos_of_neg (by omega) he'
     omega
theorem prod_le {x a b:Int}:(a-x)*(b-x)≤0↔(a≤x∧x≤b)∨(b≤x∧x≤a):=by
 constructor
 ·intro h
  rcases Int.lt_trichotomy a x with h1 | h1 | h1
  ·by_cases h2:b<x
   ·have:=Int.mul_pos_of_neg_of_neg (show a-x<0 by omega) (show b-x<0 by omega);omega
   ·left;omega
  ·omega
  ·by_cases h2:x<b
   ·have:=Int.mul_pos (show 0<a-x by omega) (show 0<b-x by omega);omega
   ·right;omega
 ·rintro (h | h)
  ·exact Int.mul_nonpos_of_nonpos_of_nonneg (by omega) (by omega)
  ·exact Int.mul_nonpos_of_nonneg_of_nonpos (by omega) (by omega)
def crs (a b c:Point):Int:=(b.X-a.X)*(c.Y-a.Y)-(b.Y-a.Y)*(c.X-a.X)
def Bx (s:Segment) (p:Point):Prop:=(s.A.X≤p.X∧p.X≤s.B.X∨s.B.X≤p.X∧p.X≤s.A.X)∧(s.A.Y≤p.Y∧p.Y≤s.B.Y∨s.B.Y≤p.Y∧p.Y≤s.A.Y)
def On (s:Segment) (p:Point):Prop:=Bx s p∧crs s.A s.B p=0
theorem pt_ext {p q:Point} (h1:p.X=q.X) (h2:p.Y=q.Y):p=q:=by cases p;cases q;simp_all
theorem pt_ne {p q:Point} (h:p≠q):p.X≠q.X∨p.Y≠q.Y:=by
 by_cases h1:p.X=q.X
 ·right;exact fun h2=>h (pt_ext h1 h2)
 ·left;exact h1
theorem on_A (s:Segment):On s s.A:=⟨by unfold Bx;omega,by unfold crs;grind⟩
theorem on_B (s:Segment):On s s.B:=⟨by unfold Bx;omega,by unfold crs;grind⟩
theorem crs_swap (a b c:Point):crs b a c=- crs a b c:=by unfold crs;grind
theorem crs_diff (a b c d:Point):crs a b c-crs a b d=crs c d b-crs c d a:=by unfold crs;grind
theorem on_iff {a b p d:Point} (h:crs a b p=0) (hd:crs a b d≠0):Bx ⟨a,b⟩ p↔crs p d a*crs p d b≤0:=by
 have k:=between (ux:=a.X-p.X) (uy:=a.Y-p.Y) (vx:=b.X-p.X) (vy:=b.Y-p.Y) (wx:=d.X-p.X) (wy:=d.Y-p.Y) (by unfold crs at h;grind) (by
  by_cases h1:(d.X-p.X)*(a.Y-p.Y)=(d.Y-p.Y)*(a.X-p.X)
  ·right
   intro h2
   apply hd
   unfold crs at h ⊢
   grind
  ·exact .inl h1)
 have e1:crs p d a=(d.X-p.X)*(a.Y-p.Y)-(d.Y-p.Y)*(a.X-p.X):=rfl
 have e2:crs p d b=(d.X-p.X)*(b.Y-p.Y)-(d.Y-p.Y)*(b.X-p.X):=rfl
 rw [e1,e2,← k,prod_le,prod_le]
 unfold Bx
 rfl
theorem end_of {a b p d:Point} (h:crs a b p=0) (hd:crs a b d≠0) (hz:crs p d a=0):p=a:=by
 apply Classical.byContradiction
 intro hne
 have hne':=pt_ne hne
 apply hd
 unfold crs at h hz ⊢
 have k:=par (ux:=a.X-p.X) (uy:=a.Y-p.Y) (vx:=d.X-p.X) (vy:=d.Y-p.Y) (wx:=b.X-p.X) (wy:=b.Y-p.Y) (by grind) (by grind) (by omega)
 grind
theorem not_both {a b c d:Point} (hcd:c≠d) (h:crs a b c≠0∨crs a b d≠0):crs c d a≠0∨crs c d b≠0:=by
 apply Classical.byContradiction
 intro hn
 have h1:crs c d a=0:=by omega
 have h2:crs c d b=0:=by omega
 have hd:=crs_diff a b c d
 have hne:=pt_ne hcd
 have hz:crs a b c=0:=by
  unfold crs at h1 h2 ⊢
  have k:=par (ux:=d.X-c.X) (uy:=d.Y-c.Y) (vx:=a.X-c.X) (vy:=a.Y-c.Y) (wx:=b.X-c.X) (wy:=b.Y-c.Y) (by grind) (by grind) (by omega)
  grind
 omega
theorem cross_point (a b c d:Point):crs a b c*d.X-crs a b d*c.X=crs c d b*a.X-crs c d a*b.X∧crs a b c*d.Y-crs a b d*c.Y=crs c d b*a.Y-crs c d a*b.Y:=by
 unfold crs;constructor<;>grind
def Le (p q:Point):Prop:=p.X<q.X∨p.X=q.X∧p.Y≤q.Y
def Lt (p q:Point):Prop:=p.X<q.X∨p.X=q.X∧p.Y<q.Y
theorem le_iff {p q:Point}:Le p q↔Lt p q∨p=q:=by
 unfold Le Lt
 constructor
 ·intro h
  by_cases e:p=q
  ·exact .inr e
  ·have:=pt_ne e;omega
 ·rintro (h | rfl)<;>omega
theorem line_between {a b p:Point} (hab:Lt a b) (h:crs a b p=0):Bx ⟨a,b⟩ p↔Le a p∧Le p b:=by
 have h':(b.X-a.X)*(p.Y-a.Y)=(b.Y-a.Y)*(p.X-a.X):=by unfold crs at h;omega
 have h2:(b.X-a.X)*(b.Y-p.Y)=(b.Y-a.Y)*(b.X-p.X):=by grind
 unfold Bx Le
 unfold Lt at hab
 show (a.X≤p.X∧p.X≤b.X∨b.X≤p.X∧p.X≤a.X)∧(a.Y≤p.Y∧p.Y≤b.Y∨b.Y≤p.Y∧p.Y≤a.Y)↔_
 by_cases hx:a.X=b.X
 ·have hpx:p.X=a.X:=by
   have e0:(b.X-a.X)=0:=by omega
   rw [e0,Int.zero_mul] at h'
   rcases Int.mul_eq_zero.1 h'.symm with k | k<;>omega
  omega
 ·have hlt:0<b.X-a.X:=by omega
  have ey:p.X=a.X→p.Y=a.Y:=by
   intro e
   have e0:p.X-a.X=0:=by omega
   rw [e0,Int.mul_zero] at h'
   rcases Int.mul_eq_zero.1 h' with k | k<;>omega
  have ey2:p.X=b.X→p.Y=b.Y:=by
   intro e
   have e0:b.X-p.X=0:=by omega
   rw [e0,Int.mul_zero] at h2
   rcases Int.mul_eq_zero.1 h2 with k | k<;>omega
  have hy:a.X≤p.X→p.X≤b.X→(a.Y≤p.Y∧p.Y≤b.Y∨b.Y≤p.Y∧p.Y≤a.Y):=by
   intro g1 g2
   rcases Int.le_total a.Y b.Y with k | k
   ·left
    have n1:0≤(b.X-a.X)*(p.Y-a.Y):=by rw [h'];exact Int.mul_nonneg (by omega) (by omega)
    have n2:0≤(b.X-a.X)*(b.Y-p.Y):=by rw [h2];exact Int.mul_nonneg (by omega) (by omega)
    have m1:=Int.nonneg_of_mul_nonneg_right n1 hlt
    have m2:=Int.nonneg_of_mul_nonneg_right n2 hlt
    omega
   ·right
    have n1:(b.X-a.X)*(p.Y-a.Y)≤0:=by rw [h'];exact Int.mul_nonpos_of_nonpos_of_nonneg (by omega) (by omega)
    have n2:(b.X-a.X)*(b.Y-p.Y)≤0:=by rw [h2];exact Int.mul_nonpos_of_nonpos_of_nonneg (by omega) (by omega)
    have m1:p.Y-a.Y≤0:=Int.not_lt.1 fun hh=>by have:=Int.mul_pos hlt hh;omega
    have m2:b.Y-p.Y≤0:=Int.not_lt.1 fun hh=>by have:=Int.mul_pos hlt hh;omega
    omega
  constructor
  ·rintro ⟨g1,_⟩
   refine ⟨?_,?_⟩
   ·by_cases e:p.X=a.X
    ·have:=ey e;omega
    ·omega
   ·by_cases e:p.X=b.X
    ·have:=ey2 e;omega
    ·omega
  ·intro g
   exact ⟨by omega,hy (by omega) (by omega)⟩
def Near (p:Point):Prop:=-2097152≤p.X∧p.X≤2097152∧-2097152≤p.Y∧p.Y≤2097152
def NearS (s:Segment):Prop:=Near s.A∧Near s.B
def IsEnd (s:Segment) (p:Point):Prop:=p=s.A∨p=s.B
def Com (s t:Segment) (p:Point):Prop:=(IsEnd s p∨IsEnd t p)∧On s p∧On t p
def SameEnds (s t:Segment):Prop:=s.A=t.A∧s.B=t.B∨s.A=t.B∧s.B=t.A
def Proper (s t:Segment):Prop:=crs s.A s.B t.A*crs s.A s.B t.B<0∧crs t.A t.B s.A*crs t.A t.B s.B<0
inductive MeetsR (s t:Segment):Int→Prop
 | far (h:¬ (NearS s∧NearS t)):MeetsR s t 0
 | same (n:NearS s∧NearS t) (h:SameEnds s t):MeetsR s t 4
 | over (n:NearS s∧NearS t) (h:¬ SameEnds s t) (p q:Point) (hne:p≠q) (hp:Com s t p) (hq:Com s t q):MeetsR s t 5
 | end_ (n:NearS s∧NearS t) (h:¬ SameEnds s t) (p:Point) (hp:Com s t p) (u:∀ q,Com s t q→q=p) (e:IsEnd s p∧IsEnd t p):MeetsR s t 1
 | touch (n:NearS s∧NearS t) (h:¬ SameEnds s t) (p:Point) (hp:Com s t p) (u:∀ q,Com s t q→q=p) (e:¬ (IsEnd s p∧IsEnd t p)):MeetsR s t 2
 | cross (n:NearS s∧NearS t) (h:¬ SameEnds s t) (no:∀ p,¬ Com s t p) (c:Proper s t):MeetsR s t 3
 | none (n:NearS s∧NearS t) (h:¬ SameEnds s t) (no:∀ p,¬ Com s t p) (c:¬ Proper s t):MeetsR s t 0
theorem MeetsR.unique {s t:Segment} {m n:Int} (h:MeetsR s t m) (k:MeetsR s t n):m=n:=by
 cases h with
 | far h=>
  cases k with
  | far=>rfl
  | none n h' no c=>rfl
  | same n | over n | end_ n | touch n | cross n=>exact absurd n h
 | same n h=>cases k with
  | same=>rfl
  | far h'=>exact absurd n h'
  | over _ h' | end_ _ h' | touch _ h' | cross _ h' | none _ h'=>exact absurd h h'
 | over n h p q hne hp hq=>cases k with
  | over=>rfl
  | far h'=>exact absurd n h'
  | same _ h'=>exact absurd h' h
  | end_ _ _ r _ u | touch _ _ r _ u=>exact absurd ((u p hp).trans (u q hq).symm) hne
  | cross _ _ no | none _ _ no=>exact absurd hp (no p)
 | end_ n h p hp u e=>cases k with
  | end_=>rfl
  | far h'=>exact absurd n h'
  | same _ h'=>exact absurd h' h
  | over _ _ q r hne hq hr=>exact absurd ((u q hq).trans (u r hr).symm) hne
  | touch _ _ r hr _ e'=>rw [u r hr] at e';exact absurd e e'
  | cross _ _ no | none _ _ no=>exact absurd hp (no p)
 | touch n h p hp u e=>cases k with
  | touch=>rfl
  | far h'=>exact absurd n h'
  | same _ h'=>exact absurd h' h
  | over _ _ q r hne hq hr=>exact absurd ((u q hq).trans (u r hr).symm) hne
  | end_ _ _ r hr _ e'=>rw [u r hr] at e';exact absurd e' e
  | cross _ _ no | none _ _ no=>exact absurd hp (no p)
 | cross n h no c=>cases k with
  | cross=>rfl
  | far h'=>exact absurd n h'
  | same _ h'=>exact absurd h' h
  | over _ _ q r hne hq hr=>exact absurd hq (no q)
  | end_ _ _ r hr | touch _ _ r hr=>exact absurd hr (no r)
  | none _ _ _ c'=>exact absurd c c'
 | none n h no c=>cases k with
  | none=>rfl
  | far h'=>rfl
  | same _ h'=>exact absurd h' h
  | over _ _ q r hne hq hr=>exact absurd hq (no q)
  | end_ _ _ r hr | touch _ _ r hr=>exact absurd hr (no r)
  | cross _ _ _ c'=>exact absurd c' c
theorem Com.symm {s t:Segment} {p:Point} (h:Com s t p):Com t s p:=⟨h.1.symm,h.2.2,h.2.1⟩
theorem SameEnds.symm {s t:Segment} (h:SameEnds s t):SameEnds t s:=by
 rcases h with ⟨a,b⟩ | ⟨a,b⟩
 ·exact .inl ⟨a.symm,b.symm⟩
 ·exact .inr ⟨b.symm,a.symm⟩
theorem MeetsR.symm {s t:Segment} {n:Int} (h:MeetsR s t n):MeetsR t s n:=by
 cases h with
 | far h=>exact .far (fun k=>h k.symm)
 | same n h=>exact .same n.symm h.symm
 | over n h p q hne hp hq=>exact .over n.symm (fun k=>h k.symm) p q hne hp.symm hq.symm
 | end_ n h p hp u e=>exact .end_ n.symm (fun k=>h k.symm) p hp.symm (fun q hq=>u q hq.symm) e.symm
 | touch n h p hp u e=>exact .touch n.symm (fun k=>h k.symm) p hp.symm (fun q hq=>u q hq.symm) (fun k=>e k.symm)
 | cross n h no c=>exact .cross n.symm (fun k=>h k.symm) (fun p hp=>no p hp.symm) c.symm
 | none n h no c=>exact .none n.symm (fun k=>h k.symm) (fun p hp=>no p hp.symm) (fun k=>c k.symm)
end Go.Gp.Gb.Geo
end
section
set_option linter.unusedVariables false
set_option linter.unusedSimpArgs false
set_option maxRecDepth 100000
namespace Go.Gp.Gb
open Go.Proofs
def ref03_Is.F (p1:Point):W Bool:=W.ret ((((decide ((-2097152:Int)≤p1.X))&&(decide (p1.X≤(2097152:Int))))&&(decide ((-2097152:Int)≤p1.Y)))&&(decide (p1.Y≤(2097152:Int))))
def zg.F (s1:Segment):W Bool:=W.bind (ref03_Is.F s1.A) (fun r1=>W.bind (W.ite r1 (ref03_Is.F s1.B) (W.ret false)) (fun r2=>W.ret (r1&&r2)))
def ref03_cross.F (a1:Point) (b1:Point) (c1:Point):W Int:=W.ret (w64 ((w64 ((w64 (b1.X-a1.X))*(w64 (c1.Y-a1.Y))))-(w64 ((w64 (b1.Y-a1.Y))*(w64 (c1.X-a1.X))))))
def ref03_On.F (s1:Segment) (p1:Point):W Bool:=W.bind (zg.F s1) (fun r1=>W.bind (W.ite (!(!r1)) (ref03_Is.F p1) (W.ret false)) (fun r2=>W.ite ((!r1)||(!r2)) (W.ret false) (W.bind (W.ite ((((decide ((if s1.B.X<s1.A.X then s1.B.X else s1.A.X)≤p1.X))&&(decide (p1.X≤(if s1.A.X<s1.B.X then s1.B.X else s1.A.X))))&&(decide ((if s1.B.Y<s1.A.Y then s1.B.Y else s1.A.Y)≤p1.Y)))&&(decide (p1.Y≤(if s1.A.Y<s1.B.Y then s1.B.Y else s1.A.Y)))) (ref03_cross.F s1.A s1.B p1) (W.ret (0:Int))) (fun r3=>W.ret (((((decide ((if s1.B.X<s1.A.X then s1.B.X else s1.A.X)≤p1.X))&&(decide (p1.X≤(if s1.A.X<s1.B.X then s1.B.X else s1.A.X))))&&(decide ((if s1.B.Y<s1.A.Y then s1.B.Y else s1.A.Y)≤p1.Y)))&&(decide (p1.Y≤(if s1.A.Y<s1.B.Y then s1.B.Y else s1.A.Y))))&&(r3==(0:Int)))))))
def ref03_sign.F (n1:Int):W Int:=W.ite (decide (n1<(0:Int))) (W.ret (-1:Int)) (W.ite (decide ((0:Int)<n1)) (W.ret (1:Int)) (W.ret (0:Int)))
def zx.F (a1:Point) (b1:Point) (c1:Point):W Int:=W.bind (ref03_Is.F a1) (fun r1=>W.bind (W.ite (!(!r1)) (ref03_Is.F b1) (W.ret false)) (fun r2=>W.bind (W.ite (!((!r1)||(!r2))) (ref03_Is.F c1) (W.ret false)) (fun r3=>W.ite (((!r1)||(!r2))||(!r3)) (W.ret (0:Int)) (W.bind (ref03_cross.F a1 b1 c1) (fun r4=>W.bind (ref03_sign.F r4) (fun r5=>W.ret r5))))))
def ref03_end.F (s1:Segment) (p1:Point):W Bool:=W.ret ((Vf p1 s1.A)||(Vf p1 s1.B))
def qp.c1 (s1:Segment) (t1:Segment) (x6:(List Point)):W Int:=W.ite (decide ((1:Int)<(x6.length:Int))) (W.ret (5:Int)) (W.ite ((x6.length:Int)==(1:Int)) (W.req (0≤(0:Int)∧(0:Int)<(x6.length:Int)) (W.bind (ref03_end.F s1 (rd zPoint x6 (0:Int))) (fun r7=>W.req (r7=true→0≤(0:Int)∧(0:Int)<(x6.length:Int)) (W.bind (W.ite r7 (ref03_end.F t1 (rd zPoint x6 (0:Int))) (W.ret false)) (fun r8=>W.ite (r7&&r8) (W.ret (1:Int)) (W.ret (2:Int))))))) (W.bind (zx.F s1.A s1.B t1.A) (fun r9=>W.bind (zx.F s1.A s1.B t1.B) (fun r10=>W.bind (W.ite (decide ((w64 (r9*r10))<(0:Int))) (zx.F t1.A t1.B s1.A) (W.ret (0:Int))) (fun r11=>W.bind (W.ite (decide ((w64 (r9*r10))<(0:Int))) (zx.F t1.A t1.B s1.B) (W.ret (0:Int))) (fun r12=>W.ite ((decide ((w64 (r9*r10))<(0:Int)))&&(decide ((w64 (r11*r12))<(0:Int)))) (W.ret (3:Int)) (W.ret (0:Int))))))))
def qp.c2 (i6:Int) (A1:(List Point)→Int→W Int) (x12:(List Point)):W Int:=A1 x12 (w64 (i6+(1:Int)))
def qp.c3 (s1:Segment) (t1:Segment) (x11:(List Point)) (i6:Int) (K2:(List Point)→W Int) (twice24:Bool):W Int:=W.req ((!twice24)=true→0≤i6∧i6<(([s1.A,s1.B,t1.A,t1.B]:List Point).length:Int)) (W.bind (W.ite (!twice24) (ref03_On.F s1 (rd zPoint ([s1.A,s1.B,t1.A,t1.B]:List Point) i6)) (W.ret false)) (fun r19=>W.req (((!twice24)&&r19)=true→0≤i6∧i6<(([s1.A,s1.B,t1.A,t1.B]:List Point).length:Int)) (W.bind (W.ite ((!twice24)&&r19) (ref03_On.F t1 (rd zPoint ([s1.A,s1.B,t1.A,t1.B]:List Point) i6)) (W.ret false)) (fun r20=>W.ite (((!twice24)&&r19)&&r20) (W.req (0≤i6∧i6<(([s1.A,s1.B,t1.A,t1.B]:List Point).length:Int)) (W.req (0≤i6∧i6<(([s1.A,s1.B,t1.A,t1.B]:List Point).length:Int)) (W.req ((x11.length+([(rd zPoint ([s1.A,s1.B,t1.A,t1.B]:List Point) i6)]:List Point).length)*16≤140737488355328∧x11.length+([(rd zPoint ([s1.A,s1.B,t1.A,t1.B]:List Point) i6)]:List Point).length≤140737488355328) (K2 (x11++([(rd zPoint ([s1.A,s1.B,t1.A,t1.B]:List Point) i6)]:List Point)))))) (K2 x11)))))
def qp.l2 (s1:Segment) (t1:Segment) (x11:(List Point)) (i6:Int) (K3:Bool→W Int) (A2:Bool→Int→W Int) (twice27:Bool) (k21:Int):W Int:=W.ite (decide (k21<(x11.length:Int))) (W.req ((!twice27)=true→0≤k21∧k21<(x11.length:Int)) (W.req ((!twice27)=true→0≤i6∧i6<(([s1.A,s1.B,t1.A,t1.B]:List Point).length:Int)) (A2 (twice27||(Vf (rd zPoint x11 k21) (rd zPoint ([s1.A,s1.B,t1.A,t1.B]:List Point) i6))) (w64 (k21+(1:Int)))))) (K3 twice27)
def qp.l1 (s1:Segment) (t1:Segment) (K1:(List Point)→W Int) (A1:(List Point)→Int→W Int) (x11:(List Point)) (i6:Int):W Int:=W.ite (decide (i6<(4:Int))) (W.ex fun n=>W.iter2 (qp.l2 s1 t1 x11 i6 (qp.c3 s1 t1 x11 i6 (qp.c2 i6 A1))) n false (0:Int)) (K1 x11)
def qp.F (s1:Segment) (t1:Segment):W Int:=W.bind (zg.F s1) (fun r1=>W.bind (W.ite (!(!r1)) (zg.F t1) (W.ret false)) (fun r2=>W.ite ((!r1)||(!r2)) (W.ret (0:Int)) (W.ite ((yn s1 t1)||((Vf s1.A t1.B)&&(Vf s1.B t1.A))) (W.ret (4:Int)) (W.ex fun n=>W.iter2 (qp.l1 s1 t1 (qp.c1 s1 t1)) n ([]:List Point) (0:Int)))))
end Go.Gp.Gb
end
section
set_option linter.unusedVariables false
set_option linter.unusedSimpArgs false
set_option maxRecDepth 10000
namespace Go.Gp.Gb
open Geo
theorem mul_bound {x y:Int} (hx:-4194304≤x∧x≤4194304) (hy:-4194304≤y∧y≤4194304):-17592186044416≤x*y∧x*y≤17592186044416:=by
 have h1:(x*y).natAbs≤4194304*4194304:=by
  rw [Int.natAbs_mul]
  exact Nat.mul_le_mul (by omega) (by omega)
 omega
def sgn (n:Int):Int:=if n<0 then -1 else if 0<n then 1 else 0
theorem crs_w {a b c:Point} (ha:Near a) (hb:Near b) (hc:Near c):w64 ((w64 ((w64 (b.X-a.X))*(w64 (c.Y-a.Y))))-(w64 ((w64 (b.Y-a.Y))*(w64 (c.X-a.X)))))=crs a b c:=by
 unfold Near at *
 rw [w64_id (x:=b.X-a.X) (by omega) (by omega),w64_id (x:=c.Y-a.Y) (by omega) (by omega),w64_id (x:=b.Y-a.Y) (by omega) (by omega),w64_id (x:=c.X-a.X) (by omega) (by omega)]
 have h1:=mul_bound (x:=b.X-a.X) (y:=c.Y-a.Y) (by omega) (by omega)
 have h2:=mul_bound (x:=b.Y-a.Y) (y:=c.X-a.X) (by omega) (by omega)
 rw [w64_id (x:=(b.X-a.X)*(c.Y-a.Y)) (by omega) (by omega),w64_id (x:=(b.Y-a.Y)*(c.X-a.X)) (by omega) (by omega)]
 exact w64_id (by omega) (by omega)
theorem eq_pt {p q:Point}:Vf p q=true↔p=q:=by
 simp only [Vf,Bool.and_eq_true,beq_iff_eq]
 exact ⟨fun h=>pt_ext h.1 h.2,fun h=>by rw [h];exact ⟨rfl,rfl⟩⟩
theorem eq_pt_f {p q:Point}:Vf p q=false↔p≠q:=by rw [← Bool.not_eq_true,eq_pt]
theorem eq_sg {s t:Segment}:yn s t=true↔s.A=t.A∧s.B=t.B:=by
 simp only [yn,Bool.and_eq_true,eq_pt]
theorem ref03_Is_b {p:Point} {Q:Bool→Prop} (h:∀ b,(b=true↔Near p)→Q b):ref03_Is.F p Q:=by
 refine h _ ?_
 simp only [Bool.and_eq_true,decide_eq_true_eq]
 unfold Near;omega
theorem ref03_Segment_b {s:Segment} {Q:Bool→Prop} (h:∀ b,(b=true↔NearS s)→Q b):zg.F s Q:=by
 refine W.bind_i (ref03_Is_b fun b1 h1=>W.bind_i ?_)
 cases b1 with
 | false=>exact h _ (iff_of_false (by simp) fun hn=>by have:=h1.2 hn.1;cases this)
 | true=>exact ref03_Is_b fun b2 h2=>h _ (by simp only [Bool.true_and,h2];exact ⟨fun k=>⟨h1.1 rfl,k⟩,fun k=>k.2⟩)
theorem sgn_b {n:Int} {Q:Int→Prop} (h:Q (sgn n)):ref03_sign.F n Q:=by
 unfold sgn at h
 refine W.dec_i (fun h1=>?_) (fun h1=>W.dec_i (fun h2=>?_) (fun h2=>?_))
 ·rwa [if_pos h1] at h
 ·rwa [if_neg h1,if_pos h2] at h
 ·rwa [if_neg h1,if_neg h2] at h
theorem ref03_cross_b {a b c:Point} (ha:Near a) (hb:Near b) (hc:Near c) {Q:Int→Prop} (h:Q (crs a b c)):ref03_cross.F a b c Q:=by
 show Q _
 rw [crs_w ha hb hc]
 exact h
theorem ref03_Orient_b {a b c:Point} (ha:Near a) (hb:Near b) (hc:Near c) {Q:Int→Prop} (h:Q (sgn (crs a b c))):zx.F a b c Q:=by
 refine W.bind_i (ref03_Is_b fun b1 h1=>W.bind_i ?_)
 obtain rfl:b1=true:=h1.2 ha
 refine W.ite_i (fun _=>ref03_Is_b fun b2 h2=>W.bind_i ?_) (fun hh=>by cases hh)
 obtain rfl:b2=true:=h2.2 hb
 refine W.ite_i (fun _=>ref03_Is_b fun b3 h3=>?_) (fun hh=>by cases hh)
 obtain rfl:b3=true:=h3.2 hc
 exact W.ite_i (fun hh=>by cases hh) (fun _=>W.bind_i (ref03_cross_b ha hb hc (W.bind_i (sgn_b h))))
theorem ref03_On_b {s:Segment} {p:Point} (hs:NearS s) (hp:Near p) {Q:Bool→Prop} (h:∀ b,(b=true↔On s p)→Q b):ref03_On.F s p Q:=by
 refine W.bind_i (ref03_Segment_b fun b1 h1=>W.bind_i ?_)
 obtain rfl:b1=true:=h1.2 hs
 refine W.ite_i (fun _=>ref03_Is_b fun b2 h2=>?_) (fun hh=>by cases hh)
 obtain rfl:b2=true:=h2.2 hp
 refine W.ite_i (fun hc=>by cases hc) (fun _=>W.bind_i ?_)
 have e:((((decide ((if s.B.X<s.A.X then s.B.X else s.A.X)≤p.X))&&(decide (p.X≤(if s.A.X<s.B.X then s.B.X else s.A.X))))&&(decide ((if s.B.Y<s.A.Y then s.B.Y else s.A.Y)≤p.Y)))&&(decide (p.Y≤(if s.A.Y<s.B.Y then s.B.Y else s.A.Y))))=true↔Bx s p:=by
  simp only [Bool.and_eq_true,decide_eq_true_eq]
  unfold Bx
  split<;>split<;>split<;>split<;>omega
 refine W.ite_i (fun hb=>ref03_cross_b hs.1 hs.2 hp (h _ ?_)) (fun hb=>h _ ?_)
 ·rw [hb]
  simp only [Bool.true_and,beq_iff_eq]
  exact ⟨fun k=>⟨e.1 hb,k⟩,fun k=>k.2⟩
 ·rw [hb]
  simp only [Bool.false_and,Bool.false_eq_true,false_iff]
  intro k
  rw [e.2 k.1] at hb;cases hb
structure Coms (s t:Segment) (l:List Point) (n:Nat):Prop where
 nodup:l.Nodup
 mem:∀ p,p∈l↔p∈([s.A,s.B,t.A,t.B]:List Point).take n∧On s p∧On t p
theorem ref03_l2_b {s t:Segment} {x:List Point} {i:Nat} (hi:i<4) (hx:x.length≤4) {K:Bool→W Int} {Q:Int→Prop} (h:∀ b,(b=true↔rd zPoint ([s.A,s.B,t.A,t.B]:List Point) (i:Int)∈x)→K b Q):(W.ex fun n=>W.iter2 (qp.l2 s t x (i:Int) K) n false (0:Int)) Q:=by
 refine W.up2 x.length (fun j b=>b=true↔rd zPoint ([s.A,s.B,t.A,t.B]:List Point) (i:Int)∈x.take j) (by simp) (fun A j b hj hI hK=>?_)
 refine W.dec_i (fun hlt=>?_) (fun hge=>?_)
 ·have hj2:j<x.length:=by omega
  refine W.req_i (fun _=>⟨by omega,hlt⟩) (W.req_i (fun _=>⟨by omega,by simp only [List.length_cons,List.length_nil];omega⟩) ?_)
  rw [w64_succ (by omega)]
  refine hK hj2 _ ?_
  rw [Bool.or_eq_true,eq_pt,hI,rd_nat hj2,List.take_add_one,List.getElem?_eq_getElem hj2]
  simp only [Option.toList_some,List.mem_append,List.mem_singleton]
  exact ⟨fun k=>k.elim .inl (fun k=>.inr k.symm),fun k=>k.elim .inl (fun k=>.inr k.symm)⟩
 ·have:j=x.length:=by omega
  subst this
  refine h b ?_
  rw [hI,List.take_length]
theorem ends_near {s t:Segment} (hs:NearS s) (ht:NearS t) {i:Nat} (hi:i<4):Near (rd zPoint ([s.A,s.B,t.A,t.B]:List Point) (i:Int)):=by
 have:i=0∨i=1∨i=2∨i=3:=by omega
 rcases this with rfl | rfl | rfl | rfl
 ·exact hs.1
 ·exact hs.2
 ·exact ht.1
 ·exact ht.2
theorem ref03_end_b {s:Segment} {p:Point} {Q:Bool→Prop} (h:∀ b,(b=true↔IsEnd s p)→Q b):ref03_end.F s p Q:=h _ (by rw [Bool.or_eq_true,eq_pt,eq_pt];rfl)
theorem sgn_w {m n:Int}:w64 (sgn m*sgn n)=sgn m*sgn n∧((sgn m*sgn n<0)↔m*n<0)∧((0<sgn m*sgn n)↔0<m*n)∧((sgn m*sgn n=0)↔m*n=0):=by
 have tri:∀ x:Int,x<0∧sgn x=-1∨x=0∧sgn x=0∨0<x∧sgn x=1:=by
  intro x;unfold sgn
  rcases Int.lt_trichotomy x 0 with h | h | h
  ·left;exact ⟨h,if_pos h⟩
  ·right;left;subst h;exact ⟨rfl,rfl⟩
  ·right;right;exact ⟨h,by rw [if_neg (by omega),if_pos h]⟩
 rcases tri m with ⟨h,e⟩ | ⟨h,e⟩ | ⟨h,e⟩<;>rcases tri n with ⟨k,e2⟩ | ⟨k,e2⟩ | ⟨k,e2⟩<;>rw [e,e2]
 ·have:=Int.mul_pos_of_neg_of_neg h k;exact ⟨rfl,by omega,by omega,by omega⟩
 ·rw [k];exact ⟨rfl,by omega,by omega,by omega⟩
 ·have:=Int.mul_neg_of_neg_of_pos h k;exact ⟨rfl,by omega,by omega,by omega⟩
 ·rw [h];exact ⟨rfl,by omega,by omega,by omega⟩
 ·rw [h];exact ⟨rfl,by omega,by omega,by omega⟩
 ·rw [h];exact ⟨rfl,by omega,by omega,by omega⟩
 ·have:=Int.mul_neg_of_pos_of_neg h k;exact ⟨rfl,by omega,by omega,by omega⟩
 ·rw [k];exact ⟨rfl,by omega,by omega,by omega⟩
 ·have:=Int.mul_pos h k;exact ⟨rfl,by omega,by omega,by omega⟩
theorem Coms.com {s t:Segment} {l:List Point} (h:Coms s t l 4) (p:Point):p∈l↔Com s t p:=by
 rw [h.mem]
 unfold Com IsEnd
 simp only [List.take_succ_cons,List.take_zero,List.mem_cons,List.not_mem_nil,or_false]
 constructor
 ·rintro ⟨h1,h2⟩;exact ⟨by rcases h1 with h | h | h | h<;>simp [h],h2⟩
 ·rintro ⟨h1,h2⟩;exact ⟨by rcases h1 with (h | h) | (h | h)<;>simp [h],h2⟩
theorem Coms.len {s t:Segment} {l:List Point} {n:Nat} (h:Coms s t l n) (hn:n≤4):l.length≤n:=by
 have:=List.Nodup.length_le_of_subset h.nodup (l₂:=([s.A,s.B,t.A,t.B]:List Point).take n) (fun p hp=>((h.mem p).1 hp).1)
 simp only [List.length_take] at this
 omega
theorem ref03_c1_b {s t:Segment} {l:List Point} (hn:NearS s∧NearS t) (hd:¬ SameEnds s t) (h:Coms s t l 4) {Q:Int→Prop} (hq:∀ n,MeetsR s t n→Q n):qp.c1 s t l Q:=by
 refine W.dec_i (fun h2=>?_) (fun h2=>W.ite_i (fun h1=>?_) (fun h1=>?_))
 ·match l,h,h2 with
  | a::b::l',h,_=>
   have:=h.nodup
   refine hq 5 (.over hn hd a b ?_ ((h.com a).1 (by simp)) ((h.com b).1 (by simp)))
   intro e;subst e;simp at this
 ·rw [beq_iff_eq] at h1
  match l,h,h1 with
  | [p],h,_=>
   have u:∀ q,Com s t q→q=p:=fun q hq=>by simpa using (h.com q).2 hq
   have hp:=(h.com p).1 (by simp)
   refine W.req_i ⟨Int.le_refl _,Int.one_pos⟩ (W.bind_i (ref03_end_b fun b1 h1=>W.req_i (fun _=>⟨Int.le_refl _,Int.one_pos⟩) (W.bind_i ?_)))
   change b1=true↔IsEnd s p at h1
   cases b1 with
   | false=>exact hq 2 (.touch hn hd p hp u fun k=>by have:=h1.2 k.1;cases this)
   | true=>
    refine ref03_end_b fun b2 h2=>?_
    change b2=true↔IsEnd t p at h2
    cases b2 with
    | false=>exact hq 2 (.touch hn hd p hp u fun k=>by have:=h2.2 k.2;cases this)
    | true=>exact hq 1 (.end_ hn hd p hp u ⟨h1.1 rfl,h2.1 rfl⟩)
 ·have e:l=[]:=by
   rw [beq_eq_false_iff_ne] at h1
   cases l with
   | nil=>rfl
   | cons a l=>cases l with
    | nil=>exact absurd rfl h1
    | cons b l=>exact absurd (by simp only [List.length_cons];omega) h2
  subst e
  have no:∀ p,¬ Com s t p:=fun p hp=>by have:=(h.com p).2 hp;cases this
  refine W.bind_i (ref03_Orient_b hn.1.1 hn.1.2 hn.2.1 (W.bind_i (ref03_Orient_b hn.1.1 hn.1.2 hn.2.2 (W.bind_i ?_))))
  rw [sgn_w.1]
  by_cases hc:crs s.A s.B t.A*crs s.A s.B t.B<0
  ·rw [decide_eq_true (sgn_w.2.1.2 hc)]
   refine ref03_Orient_b hn.2.1 hn.2.2 hn.1.1 (W.bind_i (ref03_Orient_b hn.2.1 hn.2.2 hn.1.2 ?_))
   rw [sgn_w.1,Bool.true_and]
   refine W.dec_i (fun hc2=>hq 3 (.cross hn hd no ⟨hc,sgn_w.2.1.1 hc2⟩)) (fun hc2=>hq 0 (.none hn hd no fun k=>hc2 (sgn_w.2.1.2 k.2)))
  ·rw [decide_eq_false (fun k=>hc (sgn_w.2.1.1 k))]
   refine W.bind_i ?_
   exact hq 0 (.none hn hd no fun k=>hc k.1)
theorem ref03_Meets_b {s t:Segment} {Q:Int→Prop} (hq:∀ n,MeetsR s t n→Q n):qp.F s t Q:=by
 refine W.bind_i (ref03_Segment_b fun b1 h1=>W.bind_i ?_)
 cases b1 with
 | false=>exact hq 0 (.far fun k=>by have:=h1.2 k.1;cases this)
 | true=>
  refine ref03_Segment_b fun b2 h2=>?_
  cases b2 with
  | false=>exact hq 0 (.far fun k=>by have:=h2.2 k.2;cases this)
  | true=>
   have hn:NearS s∧NearS t:=⟨h1.1 rfl,h2.1 rfl⟩
   have e:(yn s t||(Vf s.A t.B&&Vf s.B t.A))=true↔SameEnds s t:=by
    rw [Bool.or_eq_true,Bool.and_eq_true,eq_sg,eq_pt,eq_pt];rfl
   refine W.ite_i (fun h=>by cases h) (fun _=>W.ite_i (fun h=>hq 4 (.same hn (e.1 h))) (fun h=>?_))
   have hd:¬ SameEnds s t:=fun k=>by rw [e.2 k] at h;cases h
   refine W.up2 4 (fun i l=>Coms s t l i) ⟨List.nodup_nil,fun p=>by simp⟩ (fun K i l hi hI hk=>?_)
   have hl:=hI.len hi
   refine W.dec_i (fun hlt=>?_) (fun hge=>?_)
   ·have hi4:i<4:=by omega
    refine ref03_l2_b hi4 (by omega) fun b hb=>?_
    have hne:=ends_near hn.1 hn.2 hi4
    have hix:0≤(i:Int)∧(i:Int)<(([s.A,s.B,t.A,t.B]:List Point).length:Int):=⟨by omega,by simp only [List.length_cons,List.length_nil];omega⟩
    have htk:([s.A,s.B,t.A,t.B]:List Point).take (i+1)=([s.A,s.B,t.A,t.B]:List Point).take i++[rd zPoint ([s.A,s.B,t.A,t.B]:List Point) (i:Int)]:=by
     have:i=0∨i=1∨i=2∨i=3:=by omega
     rcases this with rfl | rfl | rfl | rfl<;>rfl
    have next:∀ l',Coms s t l' (i+1)→K l' (w64 ((i:Int)+1)) Q:=fun l' h'=>by
     rw [w64_succ (by omega)];exact hk hi4 l' h'
    generalize hp:rd zPoint ([s.A,s.B,t.A,t.B]:List Point) (i:Int)=p at *
    unfold qp.c3
    rw [hp]
    refine W.req_i (fun _=>hix) (W.bind_i ?_)
    cases b with
    | true=>
     refine W.req_i (fun _=>hix) (W.bind_i ?_)
     refine next l ⟨hI.nodup,fun q=>?_⟩
     rw [hI.mem,htk,List.mem_append,List.mem_singleton]
     constructor
     ·exact fun k=>⟨.inl k.1,k.2⟩
     ·rintro ⟨k | rfl,k2⟩
      ·exact ⟨k,k2⟩
      ·exact (hI.mem q).1 (hb.1 rfl)
    | false=>
     have hnew:p∉l:=fun k=>by have:=hb.2 k;cases this
     refine ref03_On_b hn.1 hne fun b1 k1=>W.req_i (fun _=>hix) (W.bind_i ?_)
     have skip:¬ (On s p∧On t p)→Coms s t l (i+1):=fun hno=>⟨hI.nodup,fun q=>by
      rw [hI.mem,htk,List.mem_append,List.mem_singleton]
      constructor
      ·exact fun k=>⟨.inl k.1,k.2⟩
      ·rintro ⟨k | rfl,k2⟩
       ·exact ⟨k,k2⟩
       ·exact absurd k2 hno⟩
     cases b1 with
     | false=>exact next l (skip fun k=>by have:=k1.2 k.1;cases this)
     | true=>
      refine ref03_On_b hn.2 hne fun b2 k2=>?_
      cases b2 with
      | false=>exact next l (skip fun k=>by have:=k2.2 k.2;cases this)
      | true=>
       refine W.req_i hix (W.req_i hix (W.req_i ?_ ?_))
       ·simp only [List.length_cons,List.length_nil];omega
       ·refine next _ ⟨?_,fun q=>?_⟩
        ·rw [List.nodup_append]
         exact ⟨hI.nodup,by simp,fun a ha b hb e=>by simp at hb;subst hb;subst e;exact hnew ha⟩
        ·rw [List.mem_append,List.mem_singleton,hI.mem,htk,List.mem_append,List.mem_singleton]
         constructor
         ·rintro (k | rfl)
          ·exact ⟨.inl k.1,k.2⟩
          ·exact ⟨.inr rfl,k1.1 rfl,k2.1 rfl⟩
         ·rintro ⟨k | k,k2⟩
          ·exact .inl ⟨k,k2⟩
          ·exact .inr k
   ·have:i=4:=by omega
    subst this
    exact ref03_c1_b hn hd hI hq
theorem near_b {l:List Point} (hl:l.length<1000) {Q:Bool→Prop} (h:∀ b,(b=true↔∀ p∈l,Near p)→Q b):qx.F l Q:=by
 refine W.up1 l.length (fun i=>∀ p∈l.take i,Near p) (by simp) (fun K i hi hI hk=>?_)
 refine W.dec_i (fun hlt=>?_) (fun hge=>?_)
 ·have hi2:i<l.length:=by omega
  refine W.req_i ⟨by omega,hlt⟩ ?_
  rw [rd_nat hi2]
  have e:(decide ((2097152:Int)<(if (l[i].X)<(l[i].Y) then (l[i].Y) else (l[i].X)))||decide ((if (l[i].Y)<(l[i].X) then (l[i].Y) else (l[i].X))<(-2097152:Int)))=true↔¬ Near l[i]:=by
   rw [Bool.or_eq_true,decide_eq_true_eq,decide_eq_true_eq]
   unfold Near
   split<;>split<;>omega
  refine W.ite_i (fun hb=>h _ ?_) (fun hb=>?_)
  ·exact iff_of_false (by simp) fun k=>(e.1 hb) (k _ (List.getElem_mem hi2))
  ·rw [w64_succ (by omega)]
   refine hk hi2 fun p hp=>?_
   rw [List.take_add_one,List.getElem?_eq_getElem hi2] at hp
   rcases List.mem_append.1 hp with hp | hp
   ·exact hI p hp
   ·simp only [Option.toList_some,List.mem_singleton] at hp
    subst hp
    apply Classical.byContradiction
    intro hn
    rw [e.2 hn] at hb;cases hb
 ·have:i=l.length:=by omega
  subst this
  rw [List.take_length] at hI
  exact h true ⟨fun _=>hI,fun _=>rfl⟩
theorem cmpi_b {x y:Int} {Q:Int→Prop} (h:Q (if x<y then -1 else if y<x then 1 else 0)):qs.F x y Q:=by
 refine W.bind_i (W.bind_i (W.ite_i (fun k=>by simp at k) (fun _=>W.ite_i (fun k=>by simp at k) (fun _=>W.dec_i (fun h1=>?_) (fun h1=>W.dec_i (fun h2=>?_) (fun h2=>?_))))))
 ·rwa [if_pos h1] at h
 ·rwa [if_neg h1,if_pos h2] at h
 ·rwa [if_neg h1,if_neg h2] at h
theorem compare_b {a b:Point} {Q:Int→Prop} (h:∀ r,(r=-1∧Lt a b∨r=0∧a=b∨r=1∧Lt b a)→Q r):qg.F a b Q:=by
 refine W.bind_i ⟨3,?_⟩
 change Vg.l1 ([(a.X,b.X),(a.Y,b.Y)]:List (Int×Int)) Vg.c1 (W.iter1 (Vg.l1 ([(a.X,b.X),(a.Y,b.Y)]:List (Int×Int)) Vg.c1) 2) 0 _
 refine W.dec_i (fun _=>W.req_i ⟨by decide,by simp⟩ (W.bind_i (cmpi_b ?_))) (fun k=>by simp at k)
 have e:rd ((0:Int),(0:Int)) ([(a.X,b.X),(a.Y,b.Y)]:List (Int×Int)) 0=(a.X,b.X):=rfl
 simp only [e]
 rcases Int.lt_trichotomy a.X b.X with hx | hx | hx
 ·rw [if_pos hx];exact h _ (.inl ⟨rfl,.inl hx⟩)
 ·rw [if_neg (by omega),if_neg (by omega)]
  refine W.ite_i (fun k=>by simp at k) (fun _=>?_)
  change Vg.l1 ([(a.X,b.X),(a.Y,b.Y)]:List (Int×Int)) Vg.c1 (W.iter1 (Vg.l1 ([(a.X,b.X),(a.Y,b.Y)]:List (Int×Int)) Vg.c1) 1) (w64 (0+1)) _
  refine W.dec_i (fun _=>W.req_i ⟨by decide,by simp [w64_id]⟩ (W.bind_i (cmpi_b ?_))) (fun k=>by simp [w64_id] at k)
  have e:rd ((0:Int),(0:Int)) ([(a.X,b.X),(a.Y,b.Y)]:List (Int×Int)) (w64 (0+1))=(a.Y,b.Y):=rfl
  simp only [e]
  rcases Int.lt_trichotomy a.Y b.Y with hy | hy | hy
  ·rw [if_pos hy];exact h _ (.inl ⟨rfl,.inr ⟨hx,hy⟩⟩)
  ·rw [if_neg (by omega),if_neg (by omega)]
   refine W.ite_i (fun k=>by simp at k) (fun _=>?_)
   change Vg.l1 ([(a.X,b.X),(a.Y,b.Y)]:List (Int×Int)) Vg.c1 (W.iter1 (Vg.l1 ([(a.X,b.X),(a.Y,b.Y)]:List (Int×Int)) Vg.c1) 0) (w64 (w64 (0+1)+1)) _
   exact W.dec_i (fun k=>by simp [w64_id] at k) (fun k=>h _ (.inr (.inl ⟨rfl,pt_ext hx hy⟩)))
  ·rw [if_neg (by omega),if_pos hy];exact h _ (.inr (.inr ⟨rfl,.inr ⟨hx.symm,hy⟩⟩))
 ·rw [if_neg (by omega),if_pos hx];exact h _ (.inr (.inr ⟨rfl,.inl hx⟩))
theorem sorted_b {s:Segment} {Q:Segment→Prop} (h:∀ u,(u=s∨u=⟨s.B,s.A⟩)→Le u.A u.B→Q u):yb.F s Q:=by
 refine W.bind_i (compare_b fun r hr=>W.dec_i (fun hp=>h _ (.inr rfl) ?_) (fun hp=>h _ (.inl rfl) ?_))
 ·rcases hr with ⟨rfl,_⟩ | ⟨rfl,_⟩ | ⟨rfl,k⟩
  ·omega
  ·omega
  ·exact le_iff.2 (.inl k)
 ·rcases hr with ⟨rfl,k⟩ | ⟨rfl,k⟩ | ⟨rfl,k⟩
  ·exact le_iff.2 (.inl k)
  ·exact le_iff.2 (.inr k)
  ·omega
theorem orient_b {a b c:Point} (ha:Near a) (hb:Near b) (hc:Near c) {Q:Int→Prop} (h:Q (sgn (crs a b c))):Vy.F a b c Q:=by
 refine W.bind_i (near_b (by simp) fun t ht=>W.ite_i (fun k=>?_) (fun _=>?_))
 ·rw [ht.2 (by simp [ha,hb,hc])] at k;cases k
 ·refine W.bind_i (W.bind_i (W.bind_i (W.bind_i (cmpi_b ?_))))
  rw [crs_w ha hb hc]
  exact h
theorem crs_flip (a b p:Point):crs b a p=0↔crs a b p=0:=by rw [crs_swap a b p];omega
theorem on_flip {s:Segment} {p:Point}:On ⟨s.B,s.A⟩ p↔On s p:=by
 unfold On Bx
 rw [show crs (Segment.mk s.B s.A).A (Segment.mk s.B s.A).B p=0↔crs s.A s.B p=0 from crs_flip s.A s.B p]
 dsimp only
 omega
theorem on_pt {u:Segment} (h:u.A=u.B) {p:Point}:On u p↔p=u.A:=by
 constructor
 ·rintro ⟨hb,_⟩
  unfold Bx at hb
  rw [← h] at hb
  exact pt_ext (by omega) (by omega)
 ·rintro rfl;exact on_A u
theorem on_b {s:Segment} {p:Point} (hs:NearS s) (hp:Near p) {Q:Bool→Prop} (h:∀ b,(b=true↔On s p)→Q b):geom_On.F s p Q:=by
 refine W.bind_i (near_b (by simp) fun t ht=>W.ite_i (fun k=>?_) (fun _=>?_))
 ·rw [ht.2 (by simp [hs.1,hs.2,hp])] at k;cases k
 ·refine W.bind_i (sorted_b fun u hu hle=>?_)
  have hou:On u p↔On s p:=by
   rcases hu with rfl | rfl
   ·exact Iff.rfl
   ·exact on_flip
  have hnu:NearS u:=by
   rcases hu with rfl | rfl
   ·exact hs
   ·exact ⟨hs.2,hs.1⟩
  replace h:∀ b,(b=true↔On u p)→Q b:=fun b hb=>h b (hb.trans hou)
  refine W.bind_i (orient_b hnu.1 hnu.2 hp (W.bind_i ?_))
  have h0:sgn (crs u.A u.B p)=0↔crs u.A u.B p=0:=by unfold sgn;split<;>(try split)<;>omega
  by_cases hc:crs u.A u.B p=0
  ·rw [h0.2 hc]
   refine compare_b fun r1 h1=>W.bind_i ?_
   have l1:r1≤0↔Le u.A p:=by
    unfold Lt at h1;unfold Le
    rcases h1 with h1 | ⟨h1,rfl⟩ | h1<;>omega
   have fin:∀ r2:Int,(r1≤0→(r2≤0↔Le p u.B))→Q (((((0:Int)==0)&&(decide (r1≤(0:Int))))&&(decide (r2≤(0:Int))))&&((!(Vf u.A u.B))||(Vf p u.A))):=fun r2 l2=>by
    refine h _ ?_
    simp only [beq_self_eq_true,Bool.true_and,Bool.and_eq_true,Bool.or_eq_true,Bool.not_eq_true',eq_pt,eq_pt_f,decide_eq_true_eq]
    by_cases he:u.A=u.B
    ·rw [on_pt he]
     constructor
     ·rintro ⟨_,k | k⟩
      ·exact absurd he k
      ·exact k
     ·rintro rfl
      have k1:=l1.2 (by unfold Le;omega)
      exact ⟨⟨k1,(l2 k1).2 (by rw [← he];unfold Le;omega)⟩,.inr rfl⟩
    ·have hlt:Lt u.A u.B:=(le_iff.1 hle).resolve_right he
     have lb:=line_between hlt hc
     constructor
     ·rintro ⟨⟨k1,k2⟩,_⟩
      exact ⟨lb.2 ⟨l1.1 k1,(l2 k1).1 k2⟩,hc⟩
     ·rintro ⟨k,_⟩
      have:=lb.1 k
      have k1:=l1.2 this.1
      exact ⟨⟨k1,(l2 k1).2 this.2⟩,.inl he⟩
   by_cases hr:r1≤0
   ·have fin':=fin
    rw [show (((0:Int)==0)&&decide (r1≤0))=true by simp [hr]] at fin' ⊢
    refine compare_b fun r2 h2=>?_
    refine fin' r2 fun _=>?_
    unfold Lt at h2;unfold Le
    rcases h2 with h2 | ⟨h2,rfl⟩ | h2<;>omega
   ·have fin':=fin 0 fun k=>absurd k hr
    rw [show (((0:Int)==0)&&decide (r1≤0))=false by simp [hr]] at fin' ⊢
    exact fin'
  ·have hf:(sgn (crs u.A u.B p)==0)=false:=by rw [beq_eq_false_iff_ne];exact fun k=>hc (h0.1 k)
   rw [hf]
   refine W.bind_i ?_
   refine h _ ?_
   exact iff_of_false (by simp) fun k=>hc k.2
theorem MeetsR.flip {s t:Segment} {n:Int} (h:MeetsR ⟨s.B,s.A⟩ t n):MeetsR s t n:=by
 have com:∀ p,Com s t p→Com ⟨s.B,s.A⟩ t p:=fun p hp=>⟨hp.1.imp_left Or.symm,on_flip.2 hp.2.1,hp.2.2⟩
 have com':∀ p,Com ⟨s.B,s.A⟩ t p→Com s t p:=fun p hp=>⟨hp.1.imp_left Or.symm,on_flip.1 hp.2.1,hp.2.2⟩
 have ne:NearS s∧NearS t↔NearS ⟨s.B,s.A⟩∧NearS t:=by unfold NearS;exact ⟨fun h=>⟨h.1.symm,h.2⟩,fun h=>⟨h.1.symm,h.2⟩⟩
 have se:SameEnds s t↔SameEnds ⟨s.B,s.A⟩ t:=by
  unfold SameEnds
  constructor
  ·rintro (h | h)
   ·exact .inr ⟨h.2,h.1⟩
   ·exact .inl ⟨h.2,h.1⟩
  ·rintro (h | h)
   ·exact .inr ⟨h.2,h.1⟩
   ·exact .inl ⟨h.2,h.1⟩
 have pr:Proper s t↔Proper ⟨s.B,s.A⟩ t:=by
  unfold Proper
  rw [show crs (Segment.mk s.B s.A).A (Segment.mk s.B s.A).B t.A=- crs s.A s.B t.A from crs_swap _ _ _,show crs (Segment.mk s.B s.A).A (Segment.mk s.B s.A).B t.B=- crs s.A s.B t.B from crs_swap _ _ _,Int.neg_mul_neg]
  show _∧_↔_∧crs t.A t.B s.B*crs t.A t.B s.A<0
  rw [Int.mul_comm (crs t.A t.B s.B)]
 cases h with
 | far h=>exact .far (fun k=>h (ne.1 k))
 | same n h=>exact .same (ne.2 n) (se.2 h)
 | over n h p q hne hp hq=>exact .over (ne.2 n) (fun k=>h (se.1 k)) p q hne (com' p hp) (com' q hq)
 | end_ n h p hp u e=>exact .end_ (ne.2 n) (fun k=>h (se.1 k)) p (com' p hp) (fun q hq=>u q (com q hq)) ⟨e.1.symm,e.2⟩
 | touch n h p hp u e=>exact .touch (ne.2 n) (fun k=>h (se.1 k)) p (com' p hp) (fun q hq=>u q (com q hq)) (fun k=>e ⟨k.1.symm,k.2⟩)
 | cross n h no c=>exact .cross (ne.2 n) (fun k=>h (se.1 k)) (fun p hp=>no p (com p hp)) (pr.2 c)
 | none n h no c=>exact .none (ne.2 n) (fun k=>h (se.1 k)) (fun p hp=>no p (com p hp)) (fun k=>c (pr.1 k))
theorem crs_pt (a p:Point):crs a a p=0:=by unfold crs;grind
theorem crs_aa (a b:Point):crs a b a=0:=by unfold crs;grind
theorem crs_bb (a b:Point):crs a b b=0:=by unfold crs;grind
theorem meets_pt {s t:Segment} (hn:NearS s∧NearS t) (hd:¬ SameEnds s t) (ht:t.A=t.B):(¬ On s t.A→MeetsR s t 0)∧(On s t.A→IsEnd s t.A→MeetsR s t 1)∧(On s t.A→¬ IsEnd s t.A→MeetsR s t 2):=by
 have com:∀ p,Com s t p↔p=t.A∧On s t.A:=fun p=>by
  unfold Com;rw [on_pt ht]
  constructor
  ·rintro ⟨_,h,rfl⟩;exact ⟨rfl,h⟩
  ·rintro ⟨rfl,h⟩;exact ⟨.inr (.inl rfl),h,rfl⟩
 refine ⟨fun h=>.none hn hd (fun p hp=>h ((com p).1 hp).2) ?_,fun h e=>.end_ hn hd t.A ((com _).2 ⟨rfl,h⟩) (fun q hq=>((com q).1 hq).1) ⟨e,.inl rfl⟩,fun h e=>.touch hn hd t.A ((com _).2 ⟨rfl,h⟩) (fun q hq=>((com q).1 hq).1) fun k=>e k.1⟩
 rintro ⟨_,k⟩
 rw [← ht,crs_pt] at k
 simp at k
theorem online_pt_b {s t:Segment} (hn:NearS s∧NearS t) (hd:¬ SameEnds s t) (ht:t.A=t.B) {Q:Int→Prop} (hq:∀ n,MeetsR s t n→Q n):Vq.c1 t s Q:=by
 have ⟨m0,m1,m2⟩:=meets_pt hn hd ht
 refine W.ite_i (fun _=>W.bind_i (on_b hn.1 hn.2.1 fun b hb=>W.ite_i (fun k=>hq _ (m0 ?_)) (fun k=>W.ite_i (fun e=>hq _ (m1 ?_ ?_)) (fun e=>hq _ (m2 ?_ ?_))))) (fun k=>absurd ht (eq_pt_f.1 k))
 ·intro h;rw [hb.2 h] at k;cases k
 ·simp only [Bool.not_eq_false'] at k;exact hb.1 k
 ·rw [Bool.or_eq_true,eq_pt,eq_pt] at e;exact e
 ·simp only [Bool.not_eq_false'] at k;exact hb.1 k
 ·rw [Bool.or_eq_false_iff,eq_pt_f,eq_pt_f] at e;exact fun h=>h.elim e.1 e.2
theorem meets_line {s t:Segment} (hn:NearS s∧NearS t) (hd:¬ SameEnds s t) (hs:Lt s.A s.B) (ht:Lt t.A t.B) (ha:crs s.A s.B t.A=0) (hb:crs s.A s.B t.B=0) (hc:crs t.A t.B s.A=0) (he:crs t.A t.B s.B=0) {lo hi:Point} (hlo:lo=s.A∧Le t.A s.A∨lo=t.A∧Le s.A t.A) (hhi:hi=s.B∧Le s.B t.B∨hi=t.B∧Le t.B s.B):(Lt lo hi→MeetsR s t 5)∧(lo=hi→MeetsR s t 1)∧(Lt hi lo→MeetsR s t 0):=by
 have ons:∀ p,(IsEnd s p∨IsEnd t p)→(On s p↔Le s.A p∧Le p s.B):=fun p hp=>by
  have h0:crs s.A s.B p=0:=by
   rcases hp with (rfl | rfl) | (rfl | rfl)
   ·exact crs_aa _ _
   ·exact crs_bb _ _
   ·exact ha
   ·exact hb
  rw [← line_between hs h0]
  exact ⟨fun k=>k.1,fun k=>⟨k,h0⟩⟩
 have ont:∀ p,(IsEnd s p∨IsEnd t p)→(On t p↔Le t.A p∧Le p t.B):=fun p hp=>by
  have h0:crs t.A t.B p=0:=by
   rcases hp with (rfl | rfl) | (rfl | rfl)
   ·exact hc
   ·exact he
   ·exact crs_aa _ _
   ·exact crs_bb _ _
  rw [← line_between ht h0]
  exact ⟨fun k=>k.1,fun k=>⟨k,h0⟩⟩
 have elo:IsEnd s lo∨IsEnd t lo:=hlo.imp (fun k=>.inl k.1) (fun k=>.inl k.1)
 have ehi:IsEnd s hi∨IsEnd t hi:=hhi.imp (fun k=>.inr k.1) (fun k=>.inr k.1)
 have llo:Le s.A lo∧Le t.A lo:=by
  unfold Le at *
  rcases hlo with ⟨rfl,h⟩ | ⟨rfl,h⟩<;>omega
 have lhi:Le hi s.B∧Le hi t.B:=by
  unfold Le at *
  rcases hhi with ⟨rfl,h⟩ | ⟨rfl,h⟩<;>omega
 have com:∀ p,Com s t p↔(IsEnd s p∨IsEnd t p)∧Le lo p∧Le p hi:=fun p=>by
  unfold Com
  constructor
  ·rintro ⟨h1,h2,h3⟩
   have h2:=(ons p h1).1 h2
   have h3:=(ont p h1).1 h3
   refine ⟨h1,?_,?_⟩
   ·rcases hlo with ⟨rfl,h⟩ | ⟨rfl,h⟩
    ·exact h2.1
    ·exact h3.1
   ·rcases hhi with ⟨rfl,h⟩ | ⟨rfl,h⟩
    ·exact h2.2
    ·exact h3.2
  ·rintro ⟨h1,h2,h3⟩
   refine ⟨h1,(ons p h1).2 ?_,(ont p h1).2 ?_⟩
   ·have:=llo.1;have:=lhi.1;unfold Le at *;omega
   ·have:=llo.2;have:=lhi.2;unfold Le at *;omega
 refine ⟨fun h=>?_,fun h=>?_,fun h=>?_⟩
 ·refine .over hn hd lo hi ?_ ((com lo).2 ⟨elo,?_,?_⟩) ((com hi).2 ⟨ehi,?_,?_⟩)
  ·rintro rfl;unfold Lt at h;omega
  ·unfold Le;omega
  ·exact le_iff.2 (.inl h)
  ·exact le_iff.2 (.inl h)
  ·unfold Le;omega
 ·subst h
  refine .end_ hn hd lo ((com lo).2 ⟨elo,?_,?_⟩) (fun q hq=>?_) ?_
  ·unfold Le;omega
  ·unfold Le;omega
  ·have:=((com q).1 hq).2
   unfold Le at this
   exact pt_ext (by omega) (by omega)
  ·rcases hlo with ⟨h1,_⟩ | ⟨h1,_⟩<;>rcases hhi with ⟨h2,_⟩ | ⟨h2,_⟩
   ·rw [← h1,← h2] at hs;unfold Lt at hs;omega
   ·exact ⟨.inl h1,.inr h2⟩
   ·exact ⟨.inr h2,.inl h1⟩
   ·rw [← h1,← h2] at ht;unfold Lt at ht;omega
 ·refine .none hn hd (fun p hp=>?_) ?_
  ·have:=((com p).1 hp).2
   unfold Le at this;unfold Lt at h;omega
  ·rintro ⟨k,_⟩;rw [ha] at k;simp at k
theorem online_b {s t:Segment} (hn:NearS s∧NearS t) (hd:¬ SameEnds s t) (hs:Le s.A s.B) (ht:Le t.A t.B) (h:s.A=s.B∨t.A=t.B∨(crs s.A s.B t.A=0∧crs s.A s.B t.B=0)) {Q:Int→Prop} (hq:∀ n,MeetsR s t n→Q n):Vq.F s t Q:=by
 refine W.ite_i (fun k=>online_pt_b hn hd (eq_pt.1 k) hq) (fun kt=>?_)
 rw [eq_pt_f] at kt
 by_cases ks:s.A=s.B
 ·exact online_pt_b hn.symm (fun k=>hd k.symm) ks fun n h=>hq n h.symm
 ·obtain ⟨ha,hb⟩:=(h.resolve_left ks).resolve_left kt
  have hs':Lt s.A s.B:=(le_iff.1 hs).resolve_right ks
  have ht':Lt t.A t.B:=(le_iff.1 ht).resolve_right kt
  have hce:crs t.A t.B s.A=0∧crs t.A t.B s.B=0:=by
   apply Classical.byContradiction
   intro hn
   have:=not_both (a:=t.A) (b:=t.B) (c:=s.A) (d:=s.B) ks (by omega)
   omega
  refine W.ite_i (fun k=>absurd (eq_pt.1 k) ks) (fun _=>?_)
  have key:∀ lo hi,(lo=s.A∧Le t.A s.A∨lo=t.A∧Le s.A t.A)→(hi=s.B∧Le s.B t.B∨hi=t.B∧Le t.B s.B)→Vq.c4 lo hi Q:=fun lo hi h1 h2=>by
   have ⟨m5,m1,m0⟩:=meets_line hn hd hs' ht' ha hb hce.1 hce.2 h1 h2
   refine W.bind_i (compare_b fun r hr=>?_)
   rcases hr with ⟨rfl,k⟩ | ⟨rfl,k⟩ | ⟨rfl,k⟩
   ·exact hq _ (m5 k)
   ·exact hq _ (m1 k)
   ·exact hq _ (m0 k)
  have c3:∀ lo,(lo=s.A∧Le t.A s.A∨lo=t.A∧Le s.A t.A)→Vq.c3 t s.B lo Q:=fun lo h1=>by
   refine W.bind_i (compare_b fun r hr=>W.dec_i (fun k=>key lo t.B h1 (.inr ⟨rfl,?_⟩)) (fun k=>key lo s.B h1 (.inl ⟨rfl,?_⟩)))
   ·unfold Lt at hr;unfold Le;omega
   ·rcases hr with ⟨rfl,g⟩ | ⟨rfl,g⟩ | ⟨rfl,g⟩
    ·omega
    ·rw [g];unfold Le;omega
    ·exact le_iff.2 (.inl g)
  refine W.bind_i (compare_b fun r hr=>W.dec_i (fun k=>c3 t.A (.inr ⟨rfl,?_⟩)) (fun k=>c3 s.A (.inl ⟨rfl,?_⟩)))
  ·rcases hr with ⟨rfl,g⟩ | ⟨rfl,g⟩ | ⟨rfl,g⟩
   ·omega
   ·omega
   ·exact le_iff.2 (.inl g)
  ·rcases hr with ⟨rfl,g⟩ | ⟨rfl,g⟩ | ⟨rfl,g⟩
   ·exact le_iff.2 (.inl g)
   ·exact le_iff.2 (.inr g)
   ·omega
theorem on_gen {a b c d:Point} (h:crs a b c≠0∨crs a b d≠0):(On ⟨a,b⟩ c↔crs a b c=0∧crs c d a*crs c d b≤0)∧(On ⟨a,b⟩ d↔crs a b d=0∧crs c d a*crs c d b≤0):=by
 constructor
 ·constructor
  ·rintro ⟨h1,h2⟩
   change crs a b c=0 at h2
   exact ⟨h2,(on_iff h2 (h.resolve_left fun k=>k h2)).1 h1⟩
  ·rintro ⟨h2,h1⟩
   exact ⟨(on_iff h2 (h.resolve_left fun k=>k h2)).2 h1,h2⟩
 ·have e:crs d c a*crs d c b=crs c d a*crs c d b:=by rw [crs_swap c d a,crs_swap c d b,Int.neg_mul_neg]
  constructor
  ·rintro ⟨h1,h2⟩
   change crs a b d=0 at h2
   exact ⟨h2,by rw [← e];exact (on_iff h2 (h.resolve_right fun k=>k h2)).1 h1⟩
  ·rintro ⟨h2,h1⟩
   rw [← e] at h1
   exact ⟨(on_iff h2 (h.resolve_right fun k=>k h2)).2 h1,h2⟩
theorem meets_touch {s t:Segment} (hn:NearS s∧NearS t) (hd:¬ SameEnds s t) (h1:crs s.A s.B t.A≠0∨crs s.A s.B t.B≠0) (h2:crs t.A t.B s.A≠0∨crs t.A t.B s.B≠0) (hab:crs s.A s.B t.A*crs s.A s.B t.B=0) (hcd:crs t.A t.B s.A*crs t.A t.B s.B<0):MeetsR s t 2:=by
 have og:=on_gen (a:=s.A) (b:=s.B) (c:=t.A) (d:=t.B) h1
 have hg:=on_gen (a:=t.A) (b:=t.B) (c:=s.A) (d:=s.B) h2
 have c0:crs t.A t.B s.A≠0:=fun k=>by rw [k] at hcd;simp at hcd
 have d0:crs t.A t.B s.B≠0:=fun k=>by rw [k] at hcd;simp at hcd
 have com:∀ q,Com s t q→q=t.A∧crs s.A s.B t.A=0∨q=t.B∧crs s.A s.B t.B=0:=by
  rintro q ⟨(rfl | rfl) | (rfl | rfl),k1,k2⟩
  ·exact absurd (hg.1.1 k2).1 c0
  ·exact absurd (hg.2.1 k2).1 d0
  ·exact .inl ⟨rfl,(og.1.1 k1).1⟩
  ·exact .inr ⟨rfl,(og.2.1 k1).1⟩
 rcases Int.mul_eq_zero.1 hab with h | h
 ·refine .touch hn hd t.A ⟨.inr (.inl rfl),og.1.2 ⟨h,by omega⟩,on_A t⟩ (fun q hq=>?_) ?_
  ·rcases com q hq with k | k
   ·exact k.1
   ·exact absurd k.2 (h1.resolve_left fun k=>k h)
  ·rintro ⟨k | k,_⟩
   ·rw [← k,crs_aa] at c0;exact c0 rfl
   ·rw [← k,crs_aa] at d0;exact d0 rfl
 ·refine .touch hn hd t.B ⟨.inr (.inr rfl),og.2.2 ⟨h,by omega⟩,on_B t⟩ (fun q hq=>?_) ?_
  ·rcases com q hq with k | k
   ·exact absurd k.2 (h1.resolve_right fun k=>k h)
   ·exact k.1
  ·rintro ⟨k | k,_⟩
   ·rw [← k,crs_bb] at c0;exact c0 rfl
   ·rw [← k,crs_bb] at d0;exact d0 rfl
theorem meets_gen {s t:Segment} (hn:NearS s∧NearS t) (hd:¬ SameEnds s t) (h1:crs s.A s.B t.A≠0∨crs s.A s.B t.B≠0) (h2:crs t.A t.B s.A≠0∨crs t.A t.B s.B≠0) {ab cd:Int} (eab:crs s.A s.B t.A*crs s.A s.B t.B=ab) (ecd:crs t.A t.B s.A*crs t.A t.B s.B=cd):((0<ab∨0<cd)→MeetsR s t 0)∧(ab<0→cd<0→MeetsR s t 3)∧(ab=0→cd=0→MeetsR s t 1):=by
 have og:=on_gen (a:=s.A) (b:=s.B) (c:=t.A) (d:=t.B) h1
 have hg:=on_gen (a:=t.A) (b:=t.B) (c:=s.A) (d:=s.B) h2
 rw [ecd] at og
 rw [eab] at hg
 have za:crs s.A s.B t.A=0→ab=0:=fun k=>by rw [← eab,k,Int.zero_mul]
 have zb:crs s.A s.B t.B=0→ab=0:=fun k=>by rw [← eab,k,Int.mul_zero]
 have zc:crs t.A t.B s.A=0→cd=0:=fun k=>by rw [← ecd,k,Int.zero_mul]
 have zd:crs t.A t.B s.B=0→cd=0:=fun k=>by rw [← ecd,k,Int.mul_zero]
 have com:∀ q,Com s t q→(q=s.A∧crs t.A t.B s.A=0∧ab≤0∧cd=0)∨(q=s.B∧crs t.A t.B s.B=0∧ab≤0∧cd=0)∨(q=t.A∧crs s.A s.B t.A=0∧cd≤0∧ab=0)∨(q=t.B∧crs s.A s.B t.B=0∧cd≤0∧ab=0):=by
  rintro q ⟨(rfl | rfl) | (rfl | rfl),k1,k2⟩
  ·have:=hg.1.1 k2;exact .inl ⟨rfl,this.1,this.2,zc this.1⟩
  ·have:=hg.2.1 k2;exact .inr (.inl ⟨rfl,this.1,this.2,zd this.1⟩)
  ·have:=og.1.1 k1;exact .inr (.inr (.inl ⟨rfl,this.1,this.2,za this.1⟩))
  ·have:=og.2.1 k1;exact .inr (.inr (.inr ⟨rfl,this.1,this.2,zb this.1⟩))
 refine ⟨fun h=>.none hn hd (fun q hq=>?_) ?_,fun k1 k2=>.cross hn hd (fun q hq=>?_) ⟨by rw [eab];exact k1,by rw [ecd];exact k2⟩,fun k1 k2=>?_⟩
 ·rcases com q hq with k | k | k | k<;>omega
 ·unfold Proper;rw [eab,ecd];omega
 ·rcases com q hq with k | k | k | k<;>omega
 ·have key:∀ p,(p=s.A∨p=s.B)→(p=t.A∨p=t.B)→(∀ q,Com s t q→q=p)→MeetsR s t 1:=fun p e1 e2 u=>by
   refine .end_ hn hd p ⟨.inl e1,?_,?_⟩ u ⟨e1,e2⟩
   ·rcases e1 with rfl | rfl
    ·exact on_A s
    ·exact on_B s
   ·rcases e2 with rfl | rfl
    ·exact on_A t
    ·exact on_B t
  rw [← eab] at k1
  rw [← ecd] at k2
  rcases Int.mul_eq_zero.1 k1 with ha | hb
  ·have hb:=h1.resolve_left fun k=>k ha
   rcases Int.mul_eq_zero.1 k2 with hc | hd'
   ·have hd':=h2.resolve_left fun k=>k hc
    have e:=end_of ha hb hc
    refine key s.A (.inl rfl) (.inl e.symm) fun q hq=>?_
    rcases com q hq with k | k | k | k
    ·exact k.1
    ·exact absurd k.2.1 hd'
    ·exact k.1.trans e
    ·exact absurd k.2.1 hb
   ·have hc:=h2.resolve_right fun k=>k hd'
    have e:=end_of (a:=s.B) (b:=s.A) (p:=t.A) (d:=t.B) ((crs_flip _ _ _).2 ha) (fun k=>hb ((crs_flip _ _ _).1 k)) hd'
    refine key s.B (.inr rfl) (.inl e.symm) fun q hq=>?_
    rcases com q hq with k | k | k | k
    ·exact absurd k.2.1 hc
    ·exact k.1
    ·exact k.1.trans e
    ·exact absurd k.2.1 hb
  ·have ha:=h1.resolve_right fun k=>k hb
   rcases Int.mul_eq_zero.1 k2 with hc | hd'
   ·have hd':=h2.resolve_left fun k=>k hc
    have e:=end_of (a:=s.A) (b:=s.B) (p:=t.B) (d:=t.A) hb ha ((crs_flip _ _ _).2 hc)
    refine key s.A (.inl rfl) (.inr e.symm) fun q hq=>?_
    rcases com q hq with k | k | k | k
    ·exact k.1
    ·exact absurd k.2.1 hd'
    ·exact absurd k.2.1 ha
    ·exact k.1.trans e
   ·have hc:=h2.resolve_right fun k=>k hd'
    have e:=end_of (a:=s.B) (b:=s.A) (p:=t.B) (d:=t.A) ((crs_flip _ _ _).2 hb) (fun k=>ha ((crs_flip _ _ _).1 k)) ((crs_flip _ _ _).2 hd')
    refine key s.B (.inr rfl) (.inr e.symm) fun q hq=>?_
    rcases com q hq with k | k | k | k
    ·exact absurd k.2.1 hc
    ·exact k.1
    ·exact absurd k.2.1 ha
    ·exact k.1.trans e
theorem meets_c1_b {s t:Segment} (hn:NearS s∧NearS t) (hs:Le s.A s.B) (ht:Le t.A t.B) {Q:Int→Prop} (hq:∀ n,MeetsR s t n→Q n):wg.c1 s t Q:=by
 refine W.ite_i (fun k=>hq _ (.same hn (.inl (eq_sg.1 k)))) (fun k=>?_)
 have hd:¬ SameEnds s t:=by
  rintro (h | ⟨h1,h2⟩)
  ·rw [eq_sg.2 h] at k;cases k
  ·rw [h1,h2] at hs
   have e:t.A=t.B:=by unfold Le at hs ht;exact pt_ext (by omega) (by omega)
   rw [eq_sg.2 ⟨h1.trans e.symm,h2.trans e⟩] at k;cases k
 have z:∀ n,sgn n=0↔n=0:=fun n=>by unfold sgn;split<;>(try split)<;>omega
 refine W.bind_i ?_
 have main:s.A≠s.B→t.A≠t.B→¬ (crs s.A s.B t.A=0∧crs s.A s.B t.B=0)→(W.bind (Vy.F s.A s.B t.A) (fun r7=>W.bind (Vy.F s.A s.B t.B) (fun r8=>W.bind (Vy.F t.A t.B s.A) (fun r9=>W.bind (Vy.F t.A t.B s.B) (fun r10=>W.ite ((decide ((0:Int)<(w64 (r7*r8))))||(decide ((0:Int)<(w64 (r9*r10))))) (W.ret (0:Int)) (W.ite ((decide ((w64 (r7*r8))<(0:Int)))&&(decide ((w64 (r9*r10))<(0:Int)))) (W.ret (3:Int)) (W.ite (((w64 (r7*r8))==(0:Int))&&((w64 (r9*r10))==(0:Int))) (W.ret (1:Int)) (W.ret (2:Int))))))))) Q:=fun n1 n2 h=>by
  have h1:crs s.A s.B t.A≠0∨crs s.A s.B t.B≠0:=by omega
  have h2:=not_both n2 h1
  have ⟨m0,m3,m1⟩:=meets_gen hn hd h1 h2 rfl rfl
  refine W.bind_i (orient_b hn.1.1 hn.1.2 hn.2.1 (W.bind_i (orient_b hn.1.1 hn.1.2 hn.2.2 (W.bind_i (orient_b hn.2.1 hn.2.2 hn.1.1 (W.bind_i (orient_b hn.2.1 hn.2.2 hn.1.2 ?_)))))))
  rw [sgn_w.1,sgn_w.1]
  refine W.ite_i (fun k=>hq _ (m0 ?_)) (fun k=>W.ite_i (fun k2=>hq _ (m3 ?_ ?_)) (fun k2=>W.ite_i (fun k3=>hq _ (m1 ?_ ?_)) (fun k3=>hq _ ?_)))
  ·simpa only [Bool.or_eq_true,decide_eq_true_eq,sgn_w.2.2.1] using k
  ·simp only [Bool.and_eq_true,decide_eq_true_eq,sgn_w.2.1] at k2;exact k2.1
  ·simp only [Bool.and_eq_true,decide_eq_true_eq,sgn_w.2.1] at k2;exact k2.2
  ·simp only [Bool.and_eq_true,beq_iff_eq,sgn_w.2.2.2] at k3;exact k3.1
  ·simp only [Bool.and_eq_true,beq_iff_eq,sgn_w.2.2.2] at k3;exact k3.2
  ·rw [← Bool.not_eq_true] at k k2 k3
   simp only [Bool.and_eq_true,Bool.or_eq_true,decide_eq_true_eq,beq_iff_eq,sgn_w.2.1,sgn_w.2.2.1,sgn_w.2.2.2] at k k2 k3
   rcases (show (crs s.A s.B t.A*crs s.A s.B t.B=0∧crs t.A t.B s.A*crs t.A t.B s.B<0)∨(crs t.A t.B s.A*crs t.A t.B s.B=0∧crs s.A s.B t.A*crs s.A s.B t.B<0) by omega) with h | h
   ·exact meets_touch hn hd h1 h2 h.1 h.2
   ·exact (meets_touch hn.symm (fun k=>hd k.symm) h2 h1 h.1 h.2).symm
 by_cases hp:s.A=s.B∨t.A=t.B
 ·rw [show (Vf s.A s.B||Vf t.A t.B)=true by rw [Bool.or_eq_true,eq_pt,eq_pt];exact hp]
  exact W.bind_i (online_b hn hd hs ht (hp.imp_right .inl) hq)
 ·rw [show (Vf s.A s.B||Vf t.A t.B)=false by rw [Bool.or_eq_false_iff,eq_pt_f,eq_pt_f];exact ⟨fun k=>hp (.inl k),fun k=>hp (.inr k)⟩]
  refine orient_b hn.1.1 hn.1.2 hn.2.1 (W.bind_i ?_)
  by_cases ha:crs s.A s.B t.A=0
  ·rw [show (!false&&sgn (crs s.A s.B t.A)==0)=true by simp [(z _).2 ha]]
   refine orient_b hn.1.1 hn.1.2 hn.2.2 ?_
   refine W.ite_i (fun k=>W.bind_i (online_b hn hd hs ht (.inr (.inr ⟨ha,?_⟩)) hq)) (fun k=>main (fun k=>hp (.inl k)) (fun k=>hp (.inr k)) ?_)
   ·simp only [Bool.or_eq_true,Bool.and_eq_true,beq_iff_eq,z] at k
    exact (k.resolve_left (by simp)).2
   ·rw [← Bool.not_eq_true] at k
    simp only [Bool.or_eq_true,Bool.and_eq_true,beq_iff_eq,z] at k
    exact fun h=>k (.inr h)
  ·have hf:(sgn (crs s.A s.B t.A)==0)=false:=by rw [beq_eq_false_iff_ne];exact fun k=>ha ((z _).1 k)
   rw [hf]
   refine W.ite_i (fun k=>by simp at k) (fun _=>main (fun k=>hp (.inl k)) (fun k=>hp (.inr k)) fun k=>ha k.1)
theorem meets_b {s t:Segment} {Q:Int→Prop} (hq:∀ n,MeetsR s t n→Q n):wg.F s t Q:=by
 refine W.bind_i (near_b (by simp) fun b hb=>W.ite_i (fun k=>hq _ (.far fun h=>?_)) (fun k=>?_))
 ·rw [hb.2 (by simp [h.1.1,h.1.2,h.2.1,h.2.2])] at k;cases k
 ·simp only [Bool.not_eq_false'] at k
  have hn:=hb.1 k
  simp only [List.mem_cons,List.not_mem_nil,or_false,forall_eq_or_imp,forall_eq] at hn
  have n:NearS s∧NearS t:=⟨⟨hn.1,hn.2.1⟩,⟨hn.2.2.1,hn.2.2.2⟩⟩
  refine W.bind_i (sorted_b fun u hu lu=>W.bind_i (sorted_b fun v hv lv=>?_))
  have nu:NearS u:=hu.elim (fun e=>e ▸ n.1) (fun e=>e ▸ n.1.symm)
  have nv:NearS v:=hv.elim (fun e=>e ▸ n.2) (fun e=>e ▸ n.2.symm)
  refine meets_c1_b ⟨nu,nv⟩ lu lv fun m hm=>hq m ?_
  have h1:MeetsR u t m:=by
   rcases hv with rfl | rfl
   ·exact hm
   ·exact (MeetsR.flip hm.symm).symm
  rcases hu with rfl | rfl
  ·exact h1
  ·exact MeetsR.flip h1
end Go.Gp.Gb
end
section
set_option linter.unusedVariables false
set_option linter.unusedSimpArgs false
set_option maxRecDepth 10000
namespace Go.Gp
theorem mhas_mset {κ ν:Type} [DecidableEq κ] (k k':κ) (v:ν):∀ m:List (κ×ν),mhas k (mset k' v m)=true↔k'=k∨mhas k m=true
 | []=>by simp [mset,mhas]
 | (a,x)::m=>by
  simp only [mset]
  by_cases h:a=k'
  ·subst h
   by_cases h2:a=k
   ·simp [mhas,h2]
   ·simp [mhas,h2]
  ·simp only [if_neg h,mhas]
   by_cases h2:a=k
   ·simp [h2]
   ·simp only [if_neg h2,mhas_mset k k' v m]
theorem mhas_mem {κ ν:Type} [DecidableEq κ] {k:κ}:∀ {m:List (κ×ν)},mhas k m=true↔k∈m.map (·.1)
 | []=>by simp [mhas]
 | (a,x)::m=>by
  simp only [mhas,List.map_cons,List.mem_cons]
  by_cases h:a=k
  ·simp [h]
  ·rw [if_neg h,mhas_mem];simp [Ne.symm h]
theorem keys_mset {κ ν:Type} [DecidableEq κ] (k:κ) (v:ν):∀ m:List (κ×ν),(mset k v m).map (·.1)=if k∈m.map (·.1) then m.map (·.1) else m.map (·.1)++[k]
 | []=>by simp [mset]
 | (a,x)::m=>by
  simp only [mset]
  by_cases h:a=k
  ·subst h;simp
  ·have:=keys_mset k v m
   simp only [if_neg h,List.map_cons,this,List.mem_cons,Ne.symm h,false_or]
   split<;>simp
theorem mget_mem {κ ν:Type} [DecidableEq κ] {z:ν}:∀ {m:List (κ×ν)},(m.map (·.1)).Nodup→∀ e∈m,mget e.1 z m=e.2
 | [],_,e,he=>by cases he
 | (a,x)::m,hn,e,he=>by
  rw [List.map_cons,List.nodup_cons] at hn
  rcases List.mem_cons.1 he with rfl | he
  ·simp [mget]
  ·have:a≠e.1:=fun k=>hn.1 (by have:=List.mem_map_of_mem (f:=(·.1)) he;rw [← k] at this;exact this)
   simp only [mget,if_neg this]
   exact mget_mem hn.2 e he
end Go.Gp
namespace Go.Gp.Gb
open Geo
structure AtIs (m:Map) (x:List (ByteArray×Int)):Prop where
 has:∀ id,mhas id x=true↔∃ j:Nat,Holds m id j
 get:∀ id j,Holds m id j→mget id (0:Int) x=(j:Int)
theorem border_of_b {m:Map} (hf:MapFit m) {Q:Va×Bool→Prop} (hn:¬ MapOk m→Q (⟨zMap,[]⟩,false)) (hq:MapOk m→∀ x,AtIs m x→Q (⟨m,x⟩,true)):qu.F m Q:=by
 refine W.bind_i (atlas_Valid_b hf fun b hb=>W.ite_i (fun k=>hn fun hv=>?_) (fun k=>?_))
 ·rw [hb.2 hv] at k;cases k
 have h:MapOk m:=by rw [Bool.not_eq_false'] at k;exact hb.1 k
 have hl:=h.few
 refine W.up2 m.Objects.length (fun i x=>(∀ id,mhas id x=true↔∃ j:Nat,j<i∧Holds m id j)∧∀ id j,j<i→Holds m id j→mget id (0:Int) x=(j:Int)) ⟨fun id=>by simp [mhas],fun id j hj=>by omega⟩ (fun K i x hi hI hK=>?_)
 refine W.dec_i (fun hlt=>W.req_i ⟨by omega,hlt⟩ ?_) (fun hge=>?_)
 ·have hi':i<m.Objects.length:=by omega
  rw [w64_succ (by omega)]
  refine hK hi' _ ⟨fun id=>?_,fun id j hj hh=>?_⟩
  ·rw [mhas_mset,hI.1]
   constructor
   ·rintro (e | ⟨j,hj,hh⟩)
    ·exact ⟨i,by omega,hi',e⟩
    ·exact ⟨j,by omega,hh⟩
   ·rintro ⟨j,hj,hh⟩
    by_cases e:j=i
    ·subst e;exact .inl hh.2
    ·exact .inr ⟨j,by omega,hh⟩
  ·rw [mget_mset]
   by_cases e:j=i
   ·subst e;rw [if_pos hh.2]
   ·rw [if_neg,hI.2 id j (by omega) hh]
    intro k
    exact e (h.inj hh.1 hi' (hh.2.trans k.symm))
 ·have:i=m.Objects.length:=by omega
  subst this
  refine hq h x ⟨fun id=>?_,fun id j hh=>hI.2 id j hh.1 hh⟩
  rw [hI.1]
  constructor
  ·rintro ⟨j,_,hh⟩;exact ⟨j,hh⟩
  ·rintro ⟨j,hh⟩;exact ⟨j,hh.1,hh⟩
theorem nodes_b {m:Map} (h:MapOk m) {x:List (ByteArray×Int)} (hx:AtIs m x) {o:Object} (ho:o.Refs.length≤2000) {Q:Bool→Prop} (hq:∀ b,(b=true↔SoundP m o)→Q b):qy.F ⟨m,x⟩ o Q:=by
 have hl:=h.few
 refine W.bind_i (W.bind_i (W.up1 o.Refs.length (fun i=>∀ k,k<i→Nd m (rs o.Refs k)) (fun k hk=>by omega) (fun K i hi hI hk=>?_)))
 refine W.dec_i (fun hlt=>W.req_i ⟨by omega,hlt⟩ (W.bind_i ?_)) (fun hge=>hq _ (iff_of_true (by decide) fun k hk=>hI k (by omega)))
 have hi':i<o.Refs.length:=by omega
 unfold qn.F
 show W.req (_=true→0≤mget (rs o.Refs i) 0 x∧_) _ _
 have bad:¬ Nd m (rs o.Refs i)→Q (!(decide ((0:Int)≤(i:Int)))):=fun hno=>hq _ (iff_of_false (by simp) fun hs=>hno (hs i hi'))
 by_cases hh:mhas (rs o.Refs i) x=true
 ·obtain ⟨j,hj⟩:=(hx.has _).1 hh
  rw [hx.get _ j hj]
  refine W.req_i (fun _=>⟨by omega,by have:=hj.1;show (j:Int)<(m.Objects.length:Int);omega⟩) ?_
  refine W.ite_i (fun k=>?_) (fun k=>?_)
  ·refine bad ?_
   rintro ⟨j',hj',h1⟩
   rw [show mhas (rd (⟨#[]⟩:ByteArray) o.Refs (i:Int)) (Va.mk m x).at_=true from hh] at k
   simp only [Bool.not_true,Bool.false_or,bne_iff_ne] at k
   apply k
   have:=h.inj hj.1 hj'.1 (hj.2.trans hj'.2.symm)
   subst this
   exact h1
  ·rw [w64_succ (by omega)]
   refine hk hi' fun k' hk'=>?_
   by_cases e:k'=i
   ·subst e
    rw [Bool.or_eq_false_iff,bne_eq_false_iff_eq] at k
    exact ⟨j,hj,k.2⟩
   ·exact hI k' (by omega)
 ·have hh':mhas (rs o.Refs i) x=false:=by rw [← Bool.not_eq_true];exact hh
  refine W.req_i (fun k=>?_) (W.ite_i (fun k=>bad ?_) (fun k=>?_))
  ·rw [Bool.not_not] at k
   exact absurd k hh
  ·rintro ⟨j,hj,_⟩;exact hh ((hx.has _).2 ⟨j,hj⟩)
  ·rw [Bool.or_eq_false_iff,Bool.not_eq_false'] at k
   exact absurd k.1 hh
structure MapIs (ow:Key→List ByteArray) (x:List (Key×List ByteArray)):Prop where
 get:∀ s,mget s [] x=ow s
 mem:∀ s,s∈x.map (·.1)↔ow s≠[]
 nodup:(x.map (·.1)).Nodup
theorem contains_b {l:List ByteArray} (hl:l.length≤4000000000) {v:ByteArray} {Q:Bool→Prop} (hq:∀ b,(b=true↔v∈l)→Q b):Jm.F l v Q:=by
 refine W.bind_i (W.up1 l.length (fun i=>v∉l.take i) (by simp) (fun K i hi hI hk=>?_))
 refine W.dec_i (fun hlt=>W.req_i ⟨by omega,hlt⟩ ?_) (fun hge=>?_)
 ·have hi':i<l.length:=by omega
  rw [rd_nat hi']
  refine W.ite_i (fun k=>?_) (fun k=>?_)
  ·rw [sEq_eq] at k
   exact hq _ (iff_of_true (by simp) (k ▸ List.getElem_mem hi'))
  ·rw [sEq_false] at k
   rw [w64_succ (by omega)]
   refine hk hi' ?_
   rw [List.take_add_one,List.getElem?_eq_getElem hi']
   simp only [Option.toList_some,List.mem_append,List.mem_singleton]
   rintro (h | h)
   ·exact hI h
   ·exact k h
 ·have:i=l.length:=by omega
  subst this
  rw [List.take_length] at hI
  exact hq _ (iff_of_false (by decide) hI)
theorem lines_l3_b {m:Map} (h:MapOk m) {x:List (ByteArray×Int)} {n:Nat} (hn:n<m.Objects.length) (hs:SoundP m (ob m n)) (hk:(ob m n).Kind=2∨(ob m n).Kind=3) {t:List (Key×List ByteArray)} (ht:MapIs (own m n) t) (hl:t.length≤2001*n) {K:List (Key×List ByteArray)→W (List Jv)} {Q:List Jv→Prop} (hq:∀ t',MapIs (own m (n+1)) t'→t'.length≤2001*(n+1)→K t' Q):(W.ex fun N=>W.iter2 (Jd.l3 ⟨m,x⟩ (n:Int) K) N t (0:Int)) Q:=by
 have ho:=h.each n hn
 have hc1:=ho.count.1
 have hfew:=h.few
 have esides:sides (ob m n)=(List.range (sidesN (ob m n))).map fun i=>key (rs (ob m n).Refs i) (nxt (ob m n).Refs i):=by unfold sides;rw [if_pos hk]
 have hsl:(sides (ob m n)).length=sidesN (ob m n):=by rw [esides];simp
 have hsN:sidesN (ob m n)≤(ob m n).Refs.length∧((ob m n).Kind=3→sidesN (ob m n)=(ob m n).Refs.length)∧((ob m n).Kind=2→sidesN (ob m n)=(ob m n).Refs.length-1):=by
  unfold sidesN
  refine ⟨by split<;>omega,fun e=>if_pos e,fun e=>if_neg (by omega)⟩
 refine W.up2 (sidesN (ob m n)) (fun k t=>MapIs (ownK m n k) t∧t.length≤2001*n+k) ⟨by rw [ownK_zero];exact ht,by omega⟩ (fun K2 k t hkn hI hK2=>?_)
 obtain ⟨hI,htl⟩:=hI
 have done:k=sidesN (ob m n)→K t Q:=fun e=>by
  refine hq t ?_ (by omega)
  rw [ownK_all (.inl (by omega))] at hI
  exact hI
 refine W.dec_i (fun hlt=>W.req_i ⟨by omega,hlt⟩ ?_) (fun hge=>?_)
 ·have hk':k<(ob m n).Refs.length:=by
   have:(k:Int)<((ob m n).Refs.length:Int):=hlt
   omega
  rw [w64_succ (by omega)]
  show W.ite ((((k+1:Nat):Int)==((ob m n).Refs.length:Int))&&((ob m n).Kind==(2:Int))) _ _ Q
  refine W.ite_i (fun hb=>?_) (fun hb=>?_)
  ·rw [Bool.and_eq_true,beq_iff_eq,beq_iff_eq] at hb
   refine done ?_
   have:=hsN.2.2 hb.2
   omega
  ·have hk2:k<sidesN (ob m n):=by
    rcases hk with e | e
    ·have:=hsN.2.2 e
     have hb':¬ (((k+1:Nat):Int)=((ob m n).Refs.length:Int)):=fun hh=>by
      rw [show (((k+1:Nat):Int)==((ob m n).Refs.length:Int))=true by rw [beq_iff_eq];exact hh,e] at hb
      cases hb
     omega
    ·have:=hsN.2.1 e
     omega
   have etm:Int.tmod ((k+1:Nat):Int) ((ob m n).Refs.length:Int)=(((k+1) % (ob m n).Refs.length:Nat):Int):=(Int.ofNat_tmod _ _).symm
   have enx:rd (⟨#[]⟩:ByteArray) (ob m n).Refs (((k+1) % (ob m n).Refs.length:Nat):Int)=nxt (ob m n).Refs k:=by
    unfold nxt
    split
    ·rw [Nat.mod_eq_of_lt (by assumption)]
    ·rw [show k+1=(ob m n).Refs.length by omega,Nat.mod_self]
   have hks:k<(sides (ob m n)).length:=by omega
   have ek:(sides (ob m n))[k]=key (rs (ob m n).Refs k) (nxt (ob m n).Refs k):=by
    simp [esides]
   show W.req (((ob m n).Refs.length:Int)≠0) _ _
   refine W.req_i (by omega) ?_
   show W.req (0≤Int.tmod ((k+1:Nat):Int) ((ob m n).Refs.length:Int)∧Int.tmod ((k+1:Nat):Int) ((ob m n).Refs.length:Int)<((ob m n).Refs.length:Int)) _ _
   rw [etm]
   refine W.req_i ⟨by omega,by have:=Nat.mod_lt (k+1) (show 0<(ob m n).Refs.length by omega);omega⟩ ?_
   rw [show (rd zObject (Va.mk m x).m.Objects (n:Int))=ob m n from rfl,enx]
   show W.bind (Jm.F (mget (key (rs (ob m n).Refs k) (nxt (ob m n).Refs k)) ([]:List ByteArray) t) (ob m n).Id) _ _
   rw [← ek,hI.get]
   have hol:=ownK_len (m:=m) (n:=n) (k:=k) (s:=(sides (ob m n))[k])
   have eks:=ownK_succ h hn hs hks
   refine W.bind_i (contains_b (by omega) fun b hb=>W.ite_i (fun hf=>?_) (fun hf=>?_))
   ·rw [Bool.not_eq_true'] at hf
    have hnm:(sides (ob m n))[k]∉(sides (ob m n)).take k:=fun hh=>by
     rw [hb.2 ((ownK_mem h hn hs).2 hh)] at hf;cases hf
    show W.req (((mget (key (rs (ob m n).Refs k) (nxt (ob m n).Refs k)) ([]:List ByteArray) t).length+_)*16≤_∧_) (K2 (mset (key (rs (ob m n).Refs k) (nxt (ob m n).Refs k)) ((mget (key (rs (ob m n).Refs k) (nxt (ob m n).Refs k)) ([]:List ByteArray) t)++[(ob m n).Id]) t) _) _
    rw [← ek,hI.get]
    refine W.req_i ?_ ?_
    ·show _∧((mget (key (rs (ob m n).Refs k) (nxt (ob m n).Refs k)) ([]:List ByteArray) t).length+1≤_)
     rw [← ek,hI.get]
     simp only [List.length_cons,List.length_nil];omega
    ·have hke:=keys_mset (sides (ob m n))[k] (ownK m n k (sides (ob m n))[k]++[(ob m n).Id]) t
     refine hK2 hk2 _ ⟨⟨fun s=>?_,fun s=>?_,?_⟩,?_⟩
     ·rw [mget_mset,eks]
      by_cases e:(sides (ob m n))[k]=s
      ·rw [if_pos e,if_pos ⟨e.symm,hnm⟩,e]
      ·rw [if_neg e,if_neg (fun hh=>e hh.1.symm),hI.get]
     ·rw [hke,eks]
      by_cases e:s=(sides (ob m n))[k]
      ·subst e
       rw [if_pos (And.intro rfl hnm)]
       refine iff_of_true ?_ (by simp)
       split
       ·rename_i hh;exact hh
       ·exact List.mem_append_right _ (List.mem_singleton.2 rfl)
      ·rw [if_neg (c:=s=_∧_) (fun hh=>e hh.1),← hI.mem]
       split
       ·exact Iff.rfl
       ·rw [List.mem_append,List.mem_singleton];simp [e]
     ·rw [hke]
      split
      ·exact hI.nodup
      ·rename_i hh
       rw [List.nodup_append]
       exact ⟨hI.nodup,by simp,fun a ha b hb e=>by simp at hb;subst hb;subst e;exact hh ha⟩
     ·have:=congrArg List.length hke
      rw [List.length_map] at this
      rw [this]
      split<;>simp<;>omega
   ·rw [Bool.not_eq_false'] at hf
    have hm:=(ownK_mem h hn hs).1 (hb.1 hf)
    refine hK2 hk2 _ ⟨?_,by omega⟩
    have e:ownK m n (k+1)=ownK m n k:=by
     funext s
     rw [eks,if_neg (fun hh=>hh.2 hm)]
    rw [e];exact hI
 ·refine done ?_
  have:¬ (k:Int)<((ob m n).Refs.length:Int):=hge
  omega
open Classical in
noncomputable def cf (a b:Jv):Int:=if kLt a.nodes b.nodes then -1 else if kLt b.nodes a.nodes then 1 else 0
theorem cf_neg {a b:Jv}:cf a b<0↔kLt a.nodes b.nodes:=by
 unfold cf
 split
 ·rename_i h;exact ⟨fun _=>h,fun _=>by decide⟩
 ·rename_i h;split<;>exact ⟨fun k=>by omega,fun k=>absurd k h⟩
theorem cf_ok (xs:List Jv):SWOn cf xs:={
 irrefl:=fun x _=>by rw [cf_neg];exact kLt.irr
 trans:=fun x y z _ _ _=>by rw [cf_neg,cf_neg,cf_neg];exact kLt.trans
 ntrans:=fun x y z _ _ _=>by
  rw [cf_neg,cf_neg,cf_neg]
  intro h1 h2 h3
  rcases kLt.tri x.nodes y.nodes with k | k | k
  ·exact h1 k
  ·rw [k] at h3;exact h2 h3
  ·exact h2 (k.trans h3) }
def cmpS (a b:ByteArray):Int:=if sLt a b=true then -1 else if sLt b a=true then 1 else 0
theorem cmps_b {a b:ByteArray} {Q:Int→Prop} (h:Q (cmpS a b)):qq.F a b Q:=by
 refine W.bind_i (W.bind_i (W.ite_i (fun k=>by simp [sEq_self] at k) (fun _=>W.ite_i (fun k=>by simp [sEq_self] at k) (fun _=>W.ite_i (fun h1=>?_) (fun h1=>W.ite_i (fun h2=>?_) (fun h2=>?_))))))
 ·unfold cmpS at h;rwa [if_pos h1] at h
 ·unfold cmpS at h
  rw [Bool.not_eq_true',sLe_not] at h2
  rwa [if_neg (by rw [h1];simp),if_pos h2] at h
 ·unfold cmpS at h
  rw [Bool.not_eq_false',sLe_is] at h2
  rwa [if_neg (by rw [h1];simp),if_neg (by rw [h2];simp)] at h
theorem cmpl_b {a b:Jv} {Q:Int→Prop} (h:Q (cf a b)):wd.F a b Q:=by
 refine W.bind_i ⟨3,?_⟩
 change Vh.l1 ([a.nodes.1,b.nodes.1,a.nodes.2,b.nodes.2]:List ByteArray) Vh.c1 (W.iter1 (Vh.l1 ([a.nodes.1,b.nodes.1,a.nodes.2,b.nodes.2]:List ByteArray) Vh.c1) 2) 0 _
 refine W.dec_i (fun _=>W.req_i ⟨by decide,by simp⟩ (W.req_i ⟨by simp [w64_id],by simp [w64_id]⟩ (W.bind_i (cmps_b ?_)))) (fun k=>by simp [w64_id] at k)
 have e1:rd (⟨#[]⟩:ByteArray) ([a.nodes.1,b.nodes.1,a.nodes.2,b.nodes.2]:List ByteArray) 0=a.nodes.1:=rfl
 have e2:rd (⟨#[]⟩:ByteArray) ([a.nodes.1,b.nodes.1,a.nodes.2,b.nodes.2]:List ByteArray) (w64 (0+1))=b.nodes.1:=rfl
 have e3:rd (⟨#[]⟩:ByteArray) ([a.nodes.1,b.nodes.1,a.nodes.2,b.nodes.2]:List ByteArray) (w64 (0+2))=a.nodes.2:=rfl
 have e4:rd (⟨#[]⟩:ByteArray) ([a.nodes.1,b.nodes.1,a.nodes.2,b.nodes.2]:List ByteArray) (w64 (w64 (0+2)+1))=b.nodes.2:=rfl
 rw [e1,e2]
 unfold cf at h
 unfold cmpS
 by_cases h1:sLt a.nodes.1 b.nodes.1=true
 ·rw [if_pos h1]
  rw [if_pos (.inl h1)] at h
  exact h
 ·rw [if_neg h1]
  by_cases h2:sLt b.nodes.1 a.nodes.1=true
  ·rw [if_pos h2]
   rw [if_neg,if_pos (.inl h2)] at h
   ·exact h
   ·rintro (k | ⟨k,_⟩)
    ·exact h1 k
    ·rw [k] at h2;rw [sLt_irr] at h2;cases h2
  ·rw [if_neg h2]
   have e:a.nodes.1=b.nodes.1:=by
    rcases sLt_tri a.nodes.1 b.nodes.1 with k | k | k
    ·exact absurd k h1
    ·exact k
    ·exact absurd k h2
   refine W.ite_i (fun k=>by simp at k) (fun _=>?_)
   change Vh.l1 ([a.nodes.1,b.nodes.1,a.nodes.2,b.nodes.2]:List ByteArray) Vh.c1 (W.iter1 (Vh.l1 ([a.nodes.1,b.nodes.1,a.nodes.2,b.nodes.2]:List ByteArray) Vh.c1) 1) (w64 (0+2)) _
   refine W.dec_i (fun _=>W.req_i ⟨by simp [w64_id],by simp [w64_id]⟩ (W.req_i ⟨by simp [w64_id],by simp [w64_id]⟩ (W.bind_i (cmps_b ?_)))) (fun k=>by simp [w64_id] at k)
   rw [e3,e4]
   unfold cmpS
   have k1:kLt a.nodes b.nodes↔sLt a.nodes.2 b.nodes.2=true:=⟨fun k=>k.elim (fun k=>absurd k h1) (·.2),fun k=>.inr ⟨e,k⟩⟩
   have k2:kLt b.nodes a.nodes↔sLt b.nodes.2 a.nodes.2=true:=⟨fun k=>k.elim (fun k=>absurd k h2) (·.2),fun k=>.inr ⟨e.symm,k⟩⟩
   by_cases h3:sLt a.nodes.2 b.nodes.2=true
   ·rw [if_pos h3];rw [if_pos (k1.2 h3)] at h;exact h
   ·rw [if_neg h3]
    rw [if_neg (fun k=>h3 (k1.1 k))] at h
    by_cases h4:sLt b.nodes.2 a.nodes.2=true
    ·rw [if_pos h4];rw [if_pos (k2.2 h4)] at h;exact h
    ·rw [if_neg h4]
     rw [if_neg (fun k=>h4 (k2.1 k))] at h
     refine W.ite_i (fun k=>by simp at k) (fun _=>?_)
     change Vh.l1 ([a.nodes.1,b.nodes.1,a.nodes.2,b.nodes.2]:List ByteArray) Vh.c1 (W.iter1 (Vh.l1 ([a.nodes.1,b.nodes.1,a.nodes.2,b.nodes.2]:List ByteArray) Vh.c1) 0) (w64 (w64 (0+2)+2)) _
     exact W.dec_i (fun k=>by simp [w64_id] at k) (fun _=>h)
def ln (ow:Key→List ByteArray) (s:Key):Jv:=⟨s,ow s⟩
def mk (e:Key×List ByteArray):Jv:=⟨e.1,e.2⟩
theorem lines_b {m:Map} (h:MapOk m) {x:List (ByteArray×Int)} (hx:AtIs m x) {Q:List Jv→Prop} (hq:∀ L,Ks (owners m) L→L.length≤2001*m.Objects.length→Q (L.map (ln (owners m)))):Jd.F ⟨m,x⟩ Q:=by
 have hl:=h.few
 refine W.up2 m.Objects.length (fun i t=>MapIs (own m i) t∧t.length≤2001*i) ⟨⟨fun s=>by simp [mget,own],fun s=>by simp [own],by simp⟩,by simp⟩ (fun K i t hi hI hK=>?_)
 obtain ⟨hI,htl⟩:=hI
 refine W.dec_i (fun hlt=>W.req_i ⟨by omega,hlt⟩ ?_) (fun hge=>?_)
 ·have hi':i<m.Objects.length:=by
   have:(i:Int)<(m.Objects.length:Int):=hlt
   omega
  have hc1:=(h.each i hi').count.1
  have skip:(¬ ((ob m i).Kind=2∨(ob m i).Kind=3)∨¬ SoundP m (ob m i))→Jd.c3 (i:Int) K t Q:=fun hs=>by
   show K t (w64 ((i:Int)+1)) Q
   rw [w64_succ (by omega)]
   refine hK hi' _ ⟨?_,by omega⟩
   have e:own m (i+1)=own m i:=by
    funext s
    rw [own_succ,if_neg,List.append_nil]
    rintro ⟨h1,h2⟩
    rcases hs with hs | hs
    ·unfold sides at h2;rw [if_neg hs] at h2;cases h2
    ·exact hs h1
   rw [e];exact hI
  show W.bind (W.ite (!(((ob m i).Kind != (2:Int))&&((ob m i).Kind != (3:Int)))) (qy.F ⟨m,x⟩ (ob m i)) (W.ret false)) _ Q
  refine W.bind_i ?_
  by_cases hk:(ob m i).Kind=2∨(ob m i).Kind=3
  ·have ek:(((ob m i).Kind != (2:Int))&&((ob m i).Kind != (3:Int)))=false:=by rcases hk with e | e<;>rw [e]<;>rfl
   have ek':(((rd zObject (Va.mk m x).m.Objects (i:Int)).Kind != (2:Int))&&((rd zObject (Va.mk m x).m.Objects (i:Int)).Kind != (3:Int)))=false:=ek
   rw [ek]
   refine nodes_b h hx hc1 fun b hb=>?_
   refine W.ite_i (fun hf=>skip (.inr fun hs=>?_)) (fun hf=>?_)
   ·rw [hb.2 hs] at hf;cases hf
   ·rw [Bool.false_or,Bool.not_eq_false'] at hf
    refine lines_l3_b h hi' (hb.1 hf) hk hI htl fun t' ht' hl'=>?_
    show K t' (w64 ((i:Int)+1)) Q
    rw [w64_succ (by omega)]
    exact hK hi' _ ⟨ht',hl'⟩
  ·have ek:(((ob m i).Kind != (2:Int))&&((ob m i).Kind != (3:Int)))=true:=by
    rw [Bool.and_eq_true,bne_iff_ne,bne_iff_ne];omega
   have ek':(((rd zObject (Va.mk m x).m.Objects (i:Int)).Kind != (2:Int))&&((rd zObject (Va.mk m x).m.Objects (i:Int)).Kind != (3:Int)))=true:=ek
   rw [ek]
   exact skip (.inl hk)
 ·have hie:i=m.Objects.length:=by
   have:¬ (i:Int)<(m.Objects.length:Int):=hge
   omega
  subst hie
  refine W.req_i ⟨by omega,by omega,by omega⟩ ?_
  refine W.loop2 (fun (a:List Jv) (r:List (Key×List ByteArray))=>(a++r.map mk).Perm (t.map mk)) (fun a r=>r.length) (fun K2 a r hP hK2=>?_) (by simp)
  have hal:a.length+r.length=t.length:=by
   have:=hP.length_eq
   simpa using this
  refine ⟨fun hr=>?_,fun A e B hr=>?_⟩
  ·subst hr
   rw [List.map_nil,List.append_nil] at hP
   have hnd:(a.map (·.nodes)).Nodup:=by
    have:(a.map (·.nodes)).Perm ((t.map mk).map (·.nodes)):=hP.map _
    rw [this.nodup_iff,List.map_map]
    exact hI.nodup
   refine W.bind_i ⟨by omega,cf,cf_ok a,fun u v _ _=>cmpl_b rfl,fun ys hys hp=>?_⟩
   have hyn:(ys.map (·.nodes)).Nodup:=((hys.map _).nodup_iff).2 hnd
   have hrise:(ys.map (·.nodes)).Pairwise kLt:=by
    rw [List.pairwise_map]
    have h1:ys.Pairwise (fun x y=>x.nodes≠y.nodes):=by
     have:=hyn
     unfold List.Nodup at this
     rwa [List.pairwise_map] at this
    refine (hp.and h1).imp fun {u v} hh=>?_
    rw [cf_neg] at hh
    rcases kLt.tri u.nodes v.nodes with k | k | k
    ·exact k
    ·exact absurd k hh.2
    ·exact absurd k hh.1
   have hmem:∀ b,b∈ys↔∃ e∈t,b=mk e:=fun b=>by
    rw [hys.mem_iff,hP.mem_iff,List.mem_map]
    exact ⟨fun ⟨e,h1,h2⟩=>⟨e,h1,h2.symm⟩,fun ⟨e,h1,h2⟩=>⟨e,h1,h2.symm⟩⟩
   have hyl:ys.length=t.length:=by rw [hys.length_eq];simpa using hal
   have:=hq (ys.map (·.nodes)) ⟨hrise,fun s=>?_⟩ (by rw [List.length_map];omega)
   ·have e:(ys.map (·.nodes)).map (ln (owners m))=ys:=by
     rw [List.map_map]
     refine (List.map_congr_left (g:=id) fun b hb=>?_).trans (List.map_id _)
     obtain ⟨e,he,rfl⟩:=(hmem b).1 hb
     show (⟨e.1,own m m.Objects.length e.1⟩:Jv)=⟨e.1,e.2⟩
     rw [← hI.get,mget_mem hI.nodup e he]
    rw [e] at this
    exact this
   ·rw [← hI.mem,List.mem_map,List.mem_map]
    constructor
    ·rintro ⟨b,hb,rfl⟩
     obtain ⟨e,he,rfl⟩:=(hmem b).1 hb
     exact ⟨e,he,rfl⟩
    ·rintro ⟨e,he,rfl⟩
     exact ⟨mk e,(hmem _).2 ⟨e,he,rfl⟩,rfl⟩
  ·subst hr
   refine W.req_i rfl (W.req_i ?_ ?_)
   ·simp at hal ⊢;omega
   ·refine hK2 _ _ ?_ (by simp)
    refine List.Perm.trans ?_ hP
    rw [List.append_assoc]
    refine List.Perm.append_left a ?_
    rw [List.map_append,List.map_append,List.map_cons]
    show (mk e::(A.map mk++B.map mk)).Perm _
    exact List.perm_middle.symm
noncomputable def sg (m:Map) (s:Key):Segment:=⟨pos m s.1,pos m s.2⟩
theorem ks_nodes {m:Map} {L:List Key} (hL:Ks (owners m) L) {s:Key} (hs:s∈L):Nd m s.1∧Nd m s.2:=by
 have:=(hL.mem s).1 hs
 obtain ⟨a,ha⟩:=List.exists_mem_of_ne_nil _ this
 obtain ⟨i,hi,_,h1,h2⟩:=own_mem.1 ha
 obtain ⟨⟨i,hi,e⟩,⟨j,hj,e2⟩⟩:=sides_refs h2
 rw [e,e2]
 exact ⟨h1 i hi,h1 j hj⟩
theorem point_b {m:Map} (h:MapOk m) {x:List (ByteArray×Int)} (hx:AtIs m x) {id:ByteArray} (hn:Nd m id) {Q:Point→Prop} (hq:Q (pos m id)):Vz.F ⟨m,x⟩ id Q:=by
 obtain ⟨j,hj,_⟩:=hn
 rw [pos_eq h hj] at hq
 unfold Vz.F
 rw [show mget id (0:Int) (Va.mk m x).at_=(j:Int) from hx.get _ j hj]
 exact W.req_i ⟨by omega,by have:=hj.1;show (j:Int)<(m.Objects.length:Int);omega⟩ hq
theorem rd_map {α β:Type} {z:β} {f:α→β} {L:List α} {i:Nat} (hi:i<L.length):rd z (L.map f) (i:Int)=f L[i]:=by
 rw [rd_nat (by simpa using hi)];simp
theorem segments_b {m:Map} (h:MapOk m) {x:List (ByteArray×Int)} (hx:AtIs m x) {L:List Key} (hL:Ks (owners m) L) (hl:L.length≤2001*m.Objects.length) {Q:List Segment→Prop} (hq:Q (L.map (sg m))):Jj.F ⟨m,x⟩ (L.map (ln (owners m))) Q:=by
 have hf:=h.few
 refine W.up2 L.length (fun i y=>y=(L.take i).map (sg m)) rfl (fun K i y hi hI hK=>?_)
 subst hI
 refine W.dec_i (fun hlt=>W.req_i ⟨by omega,hlt⟩ ?_) (fun hge=>?_)
 ·rw [List.length_map] at hlt
  have hi':i<L.length:=by omega
  rw [rd_map hi']
  have hm:=List.getElem_mem hi'
  refine W.bind_i (point_b h hx (ks_nodes hL hm).1 (W.bind_i (point_b h hx (ks_nodes hL hm).2 (W.req_i ?_ ?_))))
  ·simp;omega
  ·rw [w64_succ (by omega)]
   refine hK hi' _ ?_
   rw [List.take_add_one,List.getElem?_eq_getElem hi',List.map_append]
   rfl
 ·rw [List.length_map] at hge
  have:i=L.length:=by omega
  subst this
  rw [List.take_length]
  exact hq
end Go.Gp.Gb
end
section
set_option linter.unusedVariables false
set_option linter.unusedSimpArgs false
set_option maxRecDepth 100000
namespace Go.Gp.Gb
open Go.Proofs
def ref13_segment.F (b1:Vb):W Segment:=W.ret (⟨b1.P,b1.Q⟩:Segment)
def ref13_Free.c1:W Bool:=W.ret true
def ref13_Free.l1 (s1:Segment) (r3:(List Vb)) (K1:W Bool) (A1:Int→W Bool) (i6:Int):W Bool:=W.ite (decide (i6<(r3.length:Int))) (W.req (0≤i6∧i6<(r3.length:Int)) (W.bind (ref13_segment.F (rd Je r3 i6)) (fun r12=>W.bind (qp.F r12 s1) (fun r13=>W.ite (((r13 != (0:Int))&&(r13 != (1:Int)))&&(r13 != (4:Int))) (W.ret false) (A1 (w64 (i6+(1:Int)))))))) (K1)
def ref13_Free.F (m1:Map) (s1:Segment):W Bool:=W.bind (yw.F m1) (fun r1=>W.bind (W.ite (!(!r1)) (zg.F s1) (W.ret false)) (fun r2=>W.ite ((!r1)||(!r2)) (W.ret false) (W.bind (qm.F m1) (fun r3=>W.ex fun n=>W.iter1 (ref13_Free.l1 s1 r3 (ref13_Free.c1)) n (0:Int)))))
end Go.Gp.Gb
end
section
set_option linter.unusedVariables false
set_option linter.unusedSimpArgs false
set_option maxRecDepth 10000
namespace Go.Gp.Gb
open Geo
theorem fit_of {m:Map} (h:ok_Map m):MapFit m:=by
 have:∀ i:Nat,i<m.Objects.length→ob m i∈m.Objects:=fun i hi=>by unfold ob;rw [rd_nat hi];exact List.getElem_mem hi
 refine ⟨h.1,fun i hi=>?_⟩
 obtain ⟨h1,h2,h3,h4,h5⟩:=h.2 _ (this i hi)
 refine ⟨h1,h4.1,fun j hj=>?_,h5.1,fun j hj=>?_⟩
 ·unfold rs;rw [rd_nat hj];exact h4.2 _ (List.getElem_mem hj)
 ·rw [rd_nat hj];exact (h5.2 _ (List.getElem_mem hj)).1
structure FewP (m:Map) (most:Int):Prop where
 few:(m.Objects.length:Int)≤most
 refs:∀ i:Nat,i<m.Objects.length→(ob m i).Refs.length≤12
theorem ref13_Few_b {m:Map} (hf:MapFit m) {most:Int} (hm:most≤1000) {Q:Bool→Prop} (hq:∀ b,(b=true→FewP m most)→Q b):Vj.F m most Q:=by
 have bad:Q false:=hq false (fun k=>by cases k)
 refine W.dec_i (fun _=>bad) (fun hlen=>?_)
 refine W.up1 m.Objects.length (fun i=>∀ k:Nat,k<i→(ob m k).Refs.length≤12) (fun k hk=>by omega) (fun K i hi hI hk=>?_)
 refine W.dec_i (fun hlt=>W.req_i ⟨by omega,hlt⟩ ?_) (fun hge=>hq true fun _=>⟨by omega,fun k hk=>hI k (by omega)⟩)
 have hi':i<m.Objects.length:=by omega
 show W.ite ((decide ((12:Int)<((ob m i).Refs.length:Int))||_)||_) _ _ Q
 refine W.ite_i (fun _=>bad) (fun hb=>?_)
 rw [Bool.or_eq_false_iff,Bool.or_eq_false_iff,decide_eq_false_iff_not,decide_eq_false_iff_not] at hb
 have hr:(ob m i).Refs.length≤12:=by omega
 have ht:((ob m i).Tags.length:Int)≤20:=by
  have:¬ (20:Int)<((ob m i).Tags.length:Int):=hb.1.2
  omega
 refine W.up1 (ob m i).Refs.length (fun _=>True) trivial (fun K2 k hk' _ hK2=>?_)
 refine W.dec_i (fun hlt2=>W.req_i ⟨by omega,hlt2⟩ (W.ite_i (fun _=>bad) (fun _=>?_))) (fun _=>?_)
 ·have:(k:Int)<((ob m i).Refs.length:Int):=hlt2
  rw [w64_succ (by omega)]
  exact hK2 (by omega) trivial
 ·refine W.up1 (ob m i).Tags.length (fun _=>True) trivial (fun K3 k hk' _ hK3=>?_)
  refine W.dec_i (fun hlt2=>W.req_i ⟨by omega,hlt2⟩ (W.ite_i (fun _=>bad) (fun _=>?_))) (fun _=>?_)
  ·have:(k:Int)<((ob m i).Tags.length:Int):=hlt2
   rw [w64_succ (by omega)]
   exact hK3 (by omega) trivial
  ·show K (w64 ((i:Int)+1)) Q
   rw [w64_succ (by omega)]
   refine hk hi' fun k hk=>?_
   by_cases e:k=i
   ·subst e;exact hr
   ·exact hI k (by omega)
def Okn (n:Int):Prop:=n=0∨n=1∨n=4
def FreeP (m:Map) (s:Segment):Prop:=MapOk m∧NearS s∧∀ L,Ks (owners m) L→∀ k∈L,∀ n,MeetsR (sg m k) s n→Okn n
theorem ref13_Free_b {m:Map} (hf:MapFit m) {s:Segment} {Q:Bool→Prop} (hq:∀ b,(b=true↔FreeP m s)→Q b):ref13_Free.F m s Q:=by
 refine W.bind_i (ref13_Valid_b hf fun b1 h1=>W.bind_i ?_)
 cases b1 with
 | false=>exact hq false (iff_of_false (by simp) fun k=>by have:=h1.2 k.1;cases this)
 | true=>
  have h:=h1.1 rfl
  have hfew:=h.few
  refine ref03_Segment_b fun b2 h2=>?_
  cases b2 with
  | false=>exact hq false (iff_of_false (by simp) fun k=>by have:=h2.2 k.2.1;cases this)
  | true=>
   have hn:=h2.1 rfl
   refine W.bind_i (ref13_Borders_b hf (fun k=>absurd h k) fun _ L hL hl=>?_)
   refine W.up1 L.length (fun i=>∀ k∈L.take i,∀ n,MeetsR (sg m k) s n→Okn n) (by simp) (fun K i hi hI hK=>?_)
   refine W.dec_i (fun hlt=>W.req_i ⟨by omega,hlt⟩ ?_) (fun hge=>?_)
   ·rw [List.length_map] at hlt
    have hi':i<L.length:=by omega
    rw [rd_map hi']
    refine W.bind_i (W.bind_i (ref03_Meets_b fun n hn'=>?_))
    change MeetsR (sg m L[i]) s n at hn'
    refine W.ite_i (fun hb=>hq false (iff_of_false (by simp) fun k=>?_)) (fun hb=>?_)
    ·have:=k.2.2 L hL _ (List.getElem_mem hi') n hn'
     simp only [Bool.and_eq_true,bne_iff_ne] at hb
     unfold Okn at this;omega
    ·rw [w64_succ (by omega)]
     refine hK hi' fun k hk n' hn2=>?_
     rw [List.take_add_one,List.getElem?_eq_getElem hi'] at hk
     rcases List.mem_append.1 hk with hk | hk
     ·exact hI k hk n' hn2
     ·simp only [Option.toList_some,List.mem_singleton] at hk
      subst hk
      rw [hn2.unique hn']
      rw [← Bool.not_eq_true] at hb
      simp only [Bool.and_eq_true,bne_iff_ne] at hb
      unfold Okn;omega
   ·rw [List.length_map] at hge
    have:i=L.length:=by omega
    subst this
    rw [List.take_length] at hI
    refine hq true (iff_of_true rfl ⟨h,hn,fun L' hL'=>?_⟩)
    rw [hL'.unique hL];exact hI
theorem meets_range {s t:Segment} {n:Int} (h:MeetsR s t n):0≤n∧n≤5:=by cases h<;>decide
theorem minmax {s:Segment}:((decide ((iMin [s.A.X,s.A.Y,s.B.X,s.B.Y])<(-2097152:Int)))||(decide ((2097152:Int)<(iMax [s.A.X,s.A.Y,s.B.X,s.B.Y]))))=true↔¬ NearS s:=by
 rw [Bool.or_eq_true,decide_eq_true_eq,decide_eq_true_eq]
 unfold NearS Near
 simp only [iMin,iMax,List.foldl_cons,List.foldl_nil]
 split<;>split<;>split<;>split<;>split<;>split<;>omega
theorem border_Free_b {m:Map} (hf:MapFit m) {s:Segment} {Q:Bool→Prop} (hq:∀ b,(b=true↔FreeP m s)→Q b):yl.F m s Q:=by
 refine W.bind_i (border_of_b hf (fun hno=>?_) (fun h x hx=>?_))
 ·exact W.ite_i (fun _=>hq false (iff_of_false (by simp) fun k=>hno k.1)) (fun k=>by simp at k)
 ·have hfew:=h.few
  refine W.ite_i (fun k=>?_) (fun k=>?_)
  ·rw [Bool.not_true,Bool.false_or,minmax] at k
   exact hq false (iff_of_false (by simp) fun hh=>k hh.2.1)
  ·rw [Bool.not_true,Bool.false_or,← Bool.not_eq_true,minmax,Classical.not_not] at k
   refine W.bind_i (lines_b h hx fun L hL hl=>W.bind_i (segments_b h hx hL hl (W.bind_i (W.bind_i ?_))))
   have main:∀ b:Int,((0≤b)↔¬ ∀ k∈L,∀ n,MeetsR (sg m k) s n→Okn n)→Q (!(decide ((0:Int)≤b))):=fun b hb=>hq _ (by
    rw [Bool.not_eq_true',decide_eq_false_iff_not,hb,Classical.not_not]
    constructor
    ·exact fun hh=>⟨h,k,fun L' hL'=>by rw [hL'.unique hL];exact hh⟩
    ·exact fun hh=>hh.2.2 L hL)
   refine W.up1 L.length (fun i=>∀ k∈L.take i,∀ n,MeetsR (sg m k) s n→Okn n) (by simp) (fun K i hi hI hK=>?_)
   refine W.dec_i (fun hlt=>W.req_i ⟨by omega,hlt⟩ ?_) (fun hge=>?_)
   ·rw [List.length_map] at hlt
    have hi':i<L.length:=by omega
    rw [rd_map hi']
    refine W.bind_i (W.bind_i (meets_b fun n hn'=>?_))
    have hr:=meets_range hn'
    have yes:¬ Okn n→(fun r5=>W.ite r5 (W.ret (i:Int)) (K (w64 ((i:Int)+1))) (fun r=>Q (!(decide ((0:Int)≤r))))) true:=fun hno=>main _ (iff_of_true (by omega) fun hh=>hno (hh _ (List.getElem_mem hi') n hn'))
    have no:Okn n→(fun r5=>W.ite r5 (W.ret (i:Int)) (K (w64 ((i:Int)+1))) (fun r=>Q (!(decide ((0:Int)≤r))))) false:=fun hok=>by
     show K (w64 ((i:Int)+1)) _
     rw [w64_succ (by omega)]
     refine hK hi' fun k hk n' hn2=>?_
     rw [List.take_add_one,List.getElem?_eq_getElem hi'] at hk
     rcases List.mem_append.1 hk with hk | hk
     ·exact hI k hk n' hn2
     ·simp only [Option.toList_some,List.mem_singleton] at hk
      subst hk
      rw [hn2.unique hn'];exact hok
    refine W.ite_i (fun h2=>?_) (fun h2=>W.ite_i (fun h3=>?_) (fun h3=>?_))
    ·rw [h2];rw [beq_iff_eq] at h2;exact yes (by unfold Okn;omega)
    ·rw [h3];rw [beq_iff_eq] at h3;exact yes (by unfold Okn;omega)
    ·rw [beq_eq_false_iff_ne] at h2 h3
     by_cases h5:n=5
     ·rw [h5,beq_self_eq_true];exact yes (by unfold Okn;omega)
     ·rw [show (n==5)=false by rw [beq_eq_false_iff_ne];exact h5];exact no (by unfold Okn;omega)
   ·rw [List.length_map] at hge
    have:i=L.length:=by omega
    subst this
    rw [List.take_length] at hI
    exact main _ (iff_of_false (by decide) fun k=>k hI)
abbrev Ids:=List ByteArray
def lLt:Ids→Ids→Prop
 | [],[]=>False
 | [],_::_=>True
 | _::_,[]=>False
 | x::a,y::b=>sLt x y=true∨x=y∧lLt a b
theorem lLt_irr:∀ a:Ids,¬ lLt a a
 | []=>fun h=>h
 | x::a=>fun h=>by
  rcases h with h | ⟨_,h⟩
  ·rw [sLt_irr] at h;cases h
  ·exact lLt_irr a h
theorem lLt_trans:∀ a b c:Ids,lLt a b→lLt b c→lLt a c
 | [],[],_,h,_=>h.elim
 | [],_::_,[],_,h=>h.elim
 | [],_::_,_::_,_,_=>trivial
 | _::_,[],_,h,_=>h.elim
 | _::_,_::_,[],_,h=>h.elim
 | x::a,y::b,z::c,h,k=>by
  rcases h with h | ⟨e,h⟩<;>rcases k with k | ⟨e2,k⟩
  ·exact .inl (sLt_trans h k)
  ·exact .inl (e2 ▸ h)
  ·exact .inl (e ▸ k)
  ·exact .inr ⟨e.trans e2,lLt_trans a b c h k⟩
theorem lLt_tri:∀ a b:Ids,lLt a b∨a=b∨lLt b a
 | [],[]=>.inr (.inl rfl)
 | [],_::_=>.inl trivial
 | _::_,[]=>.inr (.inr trivial)
 | x::a,y::b=>by
  rcases sLt_tri x y with h | h | h
  ·exact .inl (.inl h)
  ·rcases lLt_tri a b with k | k | k
   ·exact .inl (.inr ⟨h,k⟩)
   ·exact .inr (.inl (by rw [h,k]))
   ·exact .inr (.inr (.inr ⟨h.symm,k⟩))
  ·exact .inr (.inr (.inl h))
theorem lLt_pre:∀ P a b:Ids,lLt (P++a) (P++b)↔lLt a b
 | [],a,b=>Iff.rfl
 | x::P,a,b=>by
  show (sLt x x=true∨x=x∧lLt (P++a) (P++b))↔_
  rw [sLt_irr,lLt_pre P a b];simp
theorem before_b {a b:Ids} (ha:a.length≤1000000) (hb:b.length≤1000000) {Q:Bool→Prop} (hq:∀ r,(r=true↔lLt a b)→Q r):qd.F a b Q:=by
 refine W.up1 a.length (fun i=>∃ P A B,a=P++A∧b=P++B∧P.length=i) ⟨[],a,b,rfl,rfl,rfl⟩ (fun K i hi hI hK=>?_)
 obtain ⟨P,A,B,rfl,rfl,rfl⟩:=hI
 have ea:(((P++A).length:Nat):Int)=P.length+A.length:=by simp
 have eb:(((P++B).length:Nat):Int)=P.length+B.length:=by simp
 have r0:∀ (x:ByteArray) (l:Ids),rd (⟨#[]⟩:ByteArray) (P++x::l) (P.length:Int)=x:=fun x l=>rd_mid rfl
 refine W.ite_i (fun h=>?_) (fun h=>hq _ ?_)
 ·rw [Bool.and_eq_true,decide_eq_true_eq,decide_eq_true_eq] at h
  match A,B with
  | [],_=>simp at h
  | _::_,[]=>simp at h
  | x::A,y::B=>
   rw [r0,r0]
   refine W.req_i ⟨by omega,h.1⟩ (W.req_i ⟨by omega,h.2⟩ (W.ite_i (fun k=>?_) (fun k=>?_)))
   ·refine W.req_i ⟨by omega,h.1⟩ (W.req_i ⟨by omega,h.2⟩ (hq _ ?_))
    rw [Bool.not_eq_true',sEq_false] at k
    rw [lLt_pre]
    show _↔(sLt x y=true∨x=y∧lLt A B)
    exact ⟨.inl,fun h=>h.elim id fun h=>absurd h.1 k⟩
   ·rw [Bool.not_eq_false',sEq_eq] at k
    subst k
    rw [w64_succ (by simp at ha;omega)]
    exact hK (by simp) ⟨P++[x],A,B,by simp,by simp,by simp⟩
 ·rw [lLt_pre,decide_eq_true_eq]
  rw [← Bool.not_eq_true,Bool.and_eq_true,decide_eq_true_eq,decide_eq_true_eq] at h
  match A,B with
  | [],[]=>simp [lLt]
  | [],y::B=>simp [lLt];omega
  | x::A,[]=>simp [lLt];omega
  | x::A,y::B=>exfalso;apply h;simp;omega
def viol (ids:Ids):Violation:=⟨(⟨#[]⟩:ByteArray),2,ids⟩
open Classical in
noncomputable def pr (a b:ByteArray):Ids:=if a=b then [a] else [sMin a b,sMax a b]
def ShareP (s t:Key):Prop:=s.1=t.1∨s.1=t.2∨s.2=t.1∨s.2=t.2
def OrdN (n:Int) (s t:Key):Prop:=n=0∨n=1∧ShareP s t
def X1 (m:Map) (s t:Key) (ids:Ids):Prop:=(∃ n,MeetsR (sg m s) (sg m t) n∧¬ OrdN n s t)∧∃ a,a∈owners m s∧∃ b,b∈owners m t∧ids=pr a b
def X2 (m:Map) (s t:Key) (ids:Ids):Prop:=∃ a,(a=s.1∨a=s.2)∧∃ b,(b=t.1∨b=t.2)∧a≠b∧pos m a=pos m b∧ids=pr a b
end Go.Gp.Gb
end
section
set_option linter.unusedVariables false
set_option linter.unusedSimpArgs false
set_option maxRecDepth 10000
set_option linter.unusedSectionVars false
namespace Go.Gp.Gb
open Geo
theorem sMin_lt {a b:ByteArray} (h:sLt a b=true):sMin a b=a∧sMax a b=b∧sMin b a=a∧sMax b a=b:=by
 unfold sMin sMax
 have h2:=sLt_asymm h
 have h3:sEq b a=false:=by rw [sEq_false];exact fun e=>sLt_ne h e.symm
 simp [h,h2,h3]
theorem pr_comm (a b:ByteArray):pr a b=pr b a:=by
 unfold pr
 rcases sLt_tri a b with h | h | h
 ·rw [if_neg (sLt_ne h),if_neg (fun e=>sLt_ne h e.symm)]
  have:=sMin_lt h
  rw [this.1,this.2.1,this.2.2.1,this.2.2.2]
 ·subst h;rfl
 ·rw [if_neg (sLt_ne h),if_neg (fun e=>sLt_ne h e.symm)]
  have:=sMin_lt h
  rw [this.1,this.2.1,this.2.2.1,this.2.2.2]
theorem ShareP.symm {s t:Key} (h:ShareP s t):ShareP t s:=by
 unfold ShareP at *
 rcases h with h | h | h | h
 ·exact .inl h.symm
 ·exact .inr (.inr (.inl h.symm))
 ·exact .inr (.inl h.symm)
 ·exact .inr (.inr (.inr h.symm))
theorem OrdN.symm {n:Int} {s t:Key} (h:OrdN n s t):OrdN n t s:=h.imp id fun h=>⟨h.1,h.2.symm⟩
theorem X1.symm {m:Map} {s t:Key} {ids:Ids} (h:X1 m s t ids):X1 m t s ids:=by
 obtain ⟨⟨n,hn,ho⟩,a,ha,b,hb,e⟩:=h
 exact ⟨⟨n,hn.symm,fun k=>ho k.symm⟩,b,hb,a,ha,e.trans (pr_comm a b)⟩
theorem X2.symm {m:Map} {s t:Key} {ids:Ids} (h:X2 m s t ids):X2 m t s ids:=by
 obtain ⟨a,ha,b,hb,hne,hp,e⟩:=h
 exact ⟨b,hb,a,ha,fun k=>hne k.symm,hp.symm,e.trans (pr_comm a b)⟩
def BadI (m:Map) (ids:Ids):Prop:=∃ s t,owners m s≠[]∧owners m t≠[]∧(s≠t∧X1 m s t ids∨X2 m s t ids)
abbrev kx (L:List Key) (i:Nat):Key:=rd kz L (i:Int)
theorem kx_mem {L:List Key} {i:Nat} (h:i<L.length):kx L i∈L:=by unfold kx;rw [rd_nat h];exact List.getElem_mem h
theorem rd_mapk {β:Type} {z:β} {f:Key→β} {L:List Key} {i:Nat} (hi:i<L.length):rd z (L.map f) (i:Int)=f (kx L i):=by
 rw [rd_map hi];unfold kx;rw [rd_nat hi]
section
variable {m : Map} {L : List Key} (hL : Ks (owners m) L) (hf : m.Objects.length ≤ 24) (hl : L.length ≤ 48024)
include hL hf hl
omit hf hl in
theorem bad_iff {ids:Ids}:BadI m ids↔∃ i,i<L.length∧((∃ k,k<i∧X1 m (kx L i) (kx L k) ids)∨∃ k,k≤i∧X2 m (kx L i) (kx L k) ids):=by
 have nd:∀ i k:Nat,i<k→k<L.length→kx L i≠kx L k:=fun i k hik hk=>by
  unfold kx
  rw [rd_nat hk,rd_nat (by omega)]
  exact (List.pairwise_iff_getElem.1 hL.rise i k (by omega) hk hik).ne
 constructor
 ·rintro ⟨s,t,hs,ht,h⟩
  obtain ⟨i,hi,rfl⟩:=List.mem_iff_getElem.1 ((hL.mem s).2 hs)
  obtain ⟨k,hk,rfl⟩:=List.mem_iff_getElem.1 ((hL.mem t).2 ht)
  have ei:L[i]=kx L i:=(rd_nat hi).symm
  have ek:L[k]=kx L k:=(rd_nat hk).symm
  rw [ei,ek] at h
  rcases h with ⟨hne,h⟩ | h
  ·rcases Nat.lt_trichotomy i k with c | c | c
   ·exact ⟨k,hk,.inl ⟨i,c,h.symm⟩⟩
   ·subst c;exact absurd rfl hne
   ·exact ⟨i,hi,.inl ⟨k,c,h⟩⟩
  ·rcases Nat.lt_trichotomy i k with c | c | c
   ·exact ⟨k,hk,.inr ⟨i,by omega,h.symm⟩⟩
   ·subst c;exact ⟨i,hi,.inr ⟨i,by omega,h⟩⟩
   ·exact ⟨i,hi,.inr ⟨k,by omega,h⟩⟩
 ·rintro ⟨i,hi,⟨k,hk,h⟩ | ⟨k,hk,h⟩⟩
  ·exact ⟨_,_,(hL.mem _).1 (kx_mem hi),(hL.mem _).1 (kx_mem (by omega)),.inl ⟨(nd k i hk hi).symm,h⟩⟩
  ·exact ⟨_,_,(hL.mem _).1 (kx_mem hi),(hL.mem _).1 (kx_mem (by omega)),.inr h⟩
end
end Go.Gp.Gb
end
section
set_option linter.unusedVariables false
set_option linter.unusedSimpArgs false
set_option maxRecDepth 10000
namespace Go.Gp.Gb
open Geo
theorem cross_box {al be ga de a b c d M N:Int} (h1:al-be=de-ga) (h2:al*d-be*c=de*a-ga*b) (h3:al*be<0) (h4:ga*de<0) (ha:a≤M) (hb:b≤M) (hc:N≤c) (hd:N≤d):N≤M:=by
 apply Classical.byContradiction
 intro hn
 have sg:∀ x y:Int,x*y<0→(0<x∧y<0)∨(x<0∧0<y):=fun x y h=>by
  rcases Int.lt_trichotomy x 0 with hx | hx | hx
  ·rcases Int.lt_trichotomy y 0 with hy | hy | hy
   ·have:=Int.mul_pos_of_neg_of_neg hx hy;omega
   ·rw [hy] at h;simp at h
   ·exact .inr ⟨hx,hy⟩
  ·rw [hx] at h;simp at h
  ·rcases Int.lt_trichotomy y 0 with hy | hy | hy
   ·exact .inl ⟨hx,hy⟩
   ·rw [hy] at h;simp at h
   ·have:=Int.mul_pos hx hy;omega
 have e:al*(d-N)+(-be)*(c-N)+de*(M-a)+(-ga)*(M-b)=(al-be)*(M-N):=by grind
 rcases sg _ _ h3 with ⟨k1,k2⟩ | ⟨k1,k2⟩
 ·have hp:0<de-ga:=by omega
  have k3:0<de∧ga<0:=by rcases sg _ _ h4 with k | k<;>omega
  have n1:=Int.mul_nonneg (show 0≤al by omega) (show 0≤d-N by omega)
  have n2:=Int.mul_nonneg (show 0≤-be by omega) (show 0≤c-N by omega)
  have n3:=Int.mul_nonneg (show 0≤de by omega) (show 0≤M-a by omega)
  have n4:=Int.mul_nonneg (show 0≤-ga by omega) (show 0≤M-b by omega)
  have:=Int.mul_neg_of_pos_of_neg (show 0<al-be by omega) (show M-N<0 by omega)
  omega
 ·have hp:de-ga<0:=by omega
  have k3:de<0∧0<ga:=by rcases sg _ _ h4 with k | k<;>omega
  have n1:=Int.mul_nonpos_of_nonpos_of_nonneg (show al≤0 by omega) (show 0≤d-N by omega)
  have n2:=Int.mul_nonpos_of_nonpos_of_nonneg (show -be≤0 by omega) (show 0≤c-N by omega)
  have n3:=Int.mul_nonpos_of_nonpos_of_nonneg (show de≤0 by omega) (show 0≤M-a by omega)
  have n4:=Int.mul_nonpos_of_nonpos_of_nonneg (show -ga≤0 by omega) (show 0≤M-b by omega)
  have:=Int.mul_pos_of_neg_of_neg (show al-be<0 by omega) (show M-N<0 by omega)
  omega
def bx (a b:Int):Vo:=⟨if b<a then b else a,if a<b then b else a⟩
def mkI (i:Nat) (s:Segment):Jw:=⟨(i:Int),s,bx s.A.X s.B.X,bx s.A.Y s.B.Y⟩
theorem bx_in {a b p:Int}:(bx a b).low≤p∧p≤(bx a b).high↔a≤p∧p≤b∨b≤p∧p≤a:=by
 unfold bx;dsimp only;split<;>split<;>omega
theorem box_one {s t:Segment} {n:Int} (h:MeetsR s t n) (hn:n≠0):(bx s.A.X s.B.X).low≤(bx t.A.X t.B.X).high∧(bx s.A.Y s.B.Y).low≤(bx t.A.Y t.B.Y).high:=by
 have com:∀ p,Com s t p→(bx s.A.X s.B.X).low≤(bx t.A.X t.B.X).high∧(bx s.A.Y s.B.Y).low≤(bx t.A.Y t.B.Y).high:=fun p hp=>by
  have h1:=hp.2.1.1
  have h2:=hp.2.2.1
  have a1:=bx_in.2 h1.1
  have a2:=bx_in.2 h2.1
  have b1:=bx_in.2 h1.2
  have b2:=bx_in.2 h2.2
  omega
 cases h with
 | far=>exact absurd rfl hn
 | none=>exact absurd rfl hn
 | same _ h=>
  have hA:On s s.A:=on_A s
  have hB:On t s.A:=by
   rcases h with ⟨h,_⟩ | ⟨h,_⟩
   ·rw [h];exact on_A t
   ·rw [h];exact on_B t
  have a1:=bx_in.2 hA.1.1
  have a2:=bx_in.2 hB.1.1
  have b1:=bx_in.2 hA.1.2
  have b2:=bx_in.2 hB.1.2
  omega
 | over _ _ p _ _ hp _=>exact com p hp
 | end_ _ _ p hp=>exact com p hp
 | touch _ _ p hp=>exact com p hp
 | cross _ _ _ c=>
  have hd:=crs_diff s.A s.B t.A t.B
  have cp:=cross_point s.A s.B t.A t.B
  have lo:∀ x y:Int,(bx x y).low≤x∧(bx x y).low≤y∧x≤(bx x y).high∧y≤(bx x y).high:=fun x y=>by
   unfold bx;dsimp only;split<;>split<;>omega
  have hd':crs t.A t.B s.A-crs t.A t.B s.B=crs s.A s.B t.B-crs s.A s.B t.A:=by omega
  have cp2:=cross_point t.A t.B s.A s.B
  refine ⟨cross_box (al:=crs t.A t.B s.A) (be:=crs t.A t.B s.B) (ga:=crs s.A s.B t.A) (de:=crs s.A s.B t.B) (a:=t.A.X) (b:=t.B.X) (c:=s.A.X) (d:=s.B.X) hd' cp2.1 c.2 c.1 (lo _ _).2.2.1 (lo _ _).2.2.2 (lo _ _).1 (lo _ _).2.1,cross_box (al:=crs t.A t.B s.A) (be:=crs t.A t.B s.B) (ga:=crs s.A s.B t.A) (de:=crs s.A s.B t.B) (a:=t.A.Y) (b:=t.B.Y) (c:=s.A.Y) (d:=s.B.Y) hd' cp2.2 c.2 c.1 (lo _ _).2.2.1 (lo _ _).2.2.2 (lo _ _).1 (lo _ _).2.1⟩
theorem index_b {s:List Jw} (hs:s.length≤20000) {c:Jw} {Q:Int→Prop} (h0:(∀ u∈s,¬ u.x.high<c.x.low)→Q (-1)) (h1:∀ (i:Nat) (hi:i<s.length),(∀ u∈s.take i,¬ u.x.high<c.x.low)→s[i].x.high<c.x.low→Q (i:Int)):Ja.F s c Q:=by
 refine W.up1 s.length (fun i=>∀ u∈s.take i,¬ u.x.high<c.x.low) (by simp) (fun K i hi hI hK=>?_)
 refine W.dec_i (fun hlt=>W.req_i ⟨by omega,hlt⟩ (W.bind_i ?_)) (fun hge=>?_)
 ·have hi':i<s.length:=by omega
  refine W.dec_i (fun h=>h1 i hi' hI (by rw [rd_nat hi'] at h;exact h)) (fun h=>?_)
  rw [rd_nat hi'] at h
  rw [w64_succ (by omega)]
  refine hK hi' fun u hu=>?_
  rw [List.take_add_one,List.getElem?_eq_getElem hi'] at hu
  rcases List.mem_append.1 hu with hu | hu
  ·exact hI u hu
  ·simp only [Option.toList_some,List.mem_singleton] at hu
   subst hu;exact h
 ·have:i=s.length:=by omega
  subst this
  rw [List.take_length] at hI
  exact h0 hI
def keepI (c:Jw) (u:Jw):Bool:=!(decide (u.x.high<c.x.low))
theorem delete_b {s:List Jw} (hs:s.length≤20000) {c:Jw} {Q:List Jw→Prop} (hq:Q (s.filter (keepI c))):vv.F s c Q:=by
 refine W.bind_i (index_b hs (fun h=>?_) (fun i0 hi0 h hp0=>?_))
 ·rw [List.filter_eq_self.2 (fun u hu=>by unfold keepI;simpa using h u hu)] at hq
  exact hq
 ·refine W.ite_i (fun k=>by rw [beq_iff_eq] at k;omega) (fun _=>?_)
  rw [w64_succ (by omega)]
  refine W.loop3 (fun (x:List Jw) (i j:Int)=>∃ (F G R:List Jw) (b:Nat),x=F++G++R∧i=(F.length:Int)∧j=(b:Int)∧b=F.length+G.length∧s=s.take b++R∧F=(s.take b).filter (keepI c)∧b≤s.length) (fun x i j=>s.length-j.toNat) ?_ ?_
  ·rintro K x i j ⟨F,G,R,b,rfl,rfl,rfl,hb,hR,hF,hbl⟩ hk
   have hRl:R.length=s.length-b:=by
    have:=congrArg List.length hR
    rw [List.length_append,List.length_take] at this;omega
   have hxl:((F++G++R).length:Int)=(s.length:Int):=by simp;omega
   refine W.dec_i (fun hlt=>?_) (fun hge=>?_)
   ·match R,hRl,hR,hlt,hxl with
    | [],e,_,hlt,hxl=>simp at e;rw [hxl] at hlt;omega
    | t::R,e,hR,hlt,hxl=>
     have hr:rd Jz (F++G++t::R) (b:Int)=t:=rd_mid (by simp;omega)
     have hb1:b<s.length:=by rw [hxl] at hlt;omega
     have htk:s.take (b+1)=s.take b++[t]:=by
      have h1:s[b]?=some t:=by
       rw [hR,List.getElem?_append_right (by simp;omega)]
       simp
       rw [show b-min b s.length=0 by omega]
       simp
      rw [List.take_add_one,h1];rfl
     have hR':s=s.take (b+1)++R:=by rw [htk];simpa using hR
     rw [hr]
     refine W.req_i ⟨by omega,hlt⟩ (W.req_i ⟨by omega,hlt⟩ (W.bind_i ?_))
     rw [w64_succ (i:=b) (by omega)]
     refine W.ite_i (fun hp=>?_) (fun hp=>?_)
     ·refine W.req_i ⟨by omega,by rw [hxl];omega⟩ (W.req_i ⟨by omega,by rw [hxl];omega⟩ ?_)
      rw [w64_succ (i:=F.length) (by omega)]
      have hF':F++[t]=(s.take (b+1)).filter (keepI c):=by
       rw [htk,List.filter_append,hF]
       congr 1
       rw [List.filter_cons_of_pos (by exact hp)];rfl
      match G,hb with
      | [],hb=>
       refine hk _ _ _ ⟨F++[t],[],R,b+1,?_,by simp,rfl,by simp at hb ⊢;omega,hR',hF',by omega⟩ (by omega)
       rw [show ((F.length:Nat):Int).toNat=F.length by omega]
       simp
      | g::G,hb=>
       refine hk _ _ _ ⟨F++[t],G++[t],R,b+1,?_,by simp,rfl,by simp at hb ⊢;omega,hR',hF',by omega⟩ (by omega)
       rw [show ((F.length:Nat):Int).toNat=F.length by omega]
       simp
     ·refine hk _ _ _ ⟨F,G++[t],R,b+1,by simp,rfl,rfl,by simp;omega,hR',?_,by omega⟩ (by omega)
      rw [htk,List.filter_append,hF,List.filter_cons_of_neg (by rw [Bool.not_eq_true];exact hp)]
      simp
   ·have hbs:b=s.length:=by rw [hxl] at hge;omega
    subst hbs
    rw [List.take_length] at hF
    have e1:((F.length:Nat):Int).toNat=F.length:=by omega
    have hRn:R=[]:=List.length_eq_zero_iff.1 (by omega)
    subst hRn
    have et:(F++G++([]:List Jw)).take F.length=F:=by simp
    have fin:∀ Z:List Jw,(F++Z).take F.length=F:=fun Z=>by simp
    show vv.c1 _ _ Q
    unfold vv.c1
    rw [e1,et]
    refine W.req_i ⟨by omega,by simp;omega⟩ (W.req_i (Nat.le_refl _) (W.req_i ⟨by omega,by simp;omega⟩ (W.req_i (by simp) ?_)))
    show Q _
    rw [fin,hF];exact hq
  ·have hq1:s.take (i0+1)=s.take i0++[s[i0]]:=by rw [List.take_add_one,List.getElem?_eq_getElem hi0];rfl
   have hp:¬ keepI c s[i0]=true:=by unfold keepI;simpa using hp0
   refine ⟨s.take i0,[s[i0]],s.drop (i0+1),i0+1,?_,by simp;omega,rfl,by simp;omega,by simp,?_,by omega⟩
   ·rw [← hq1];simp
   ·rw [hq1,List.filter_append,List.filter_cons_of_neg hp,List.filter_eq_self.2 (fun u hu=>by unfold keepI;simpa using h u hu)];simp
theorem or_b {a b:Int} {Q:Int→Prop} (hq:Q (if a≠0 then a else b)):Vt.F ([a,b]:List Int) Q:=by
 refine ⟨3,?_⟩
 change Vt.l1 ([a,b]:List Int) Vt.c1 (W.iter1 (Vt.l1 ([a,b]:List Int) Vt.c1) 2) 0 _
 refine W.dec_i (fun _=>W.req_i ⟨by decide,by simp⟩ (W.ite_i (fun h=>?_) (fun h=>?_))) (fun k=>by simp at k)
 ·have h:a≠0:=by simpa [rd] using h
  rw [if_pos h] at hq;exact hq
 ·have h:¬ a≠0:=by simpa [rd] using h
  rw [if_neg h] at hq
  change Vt.l1 ([a,b]:List Int) Vt.c1 (W.iter1 (Vt.l1 ([a,b]:List Int) Vt.c1) 1) (w64 (0+1)) _
  refine W.dec_i (fun _=>W.req_i ⟨by simp [w64_id],by simp [w64_id]⟩ (W.ite_i (fun h2=>?_) (fun h2=>?_))) (fun k=>by simp [w64_id] at k)
  ·exact hq
  ·have h2:b=0:=by simpa [rd,w64_id] using h2
   subst h2
   change Vt.l1 ([a,0]:List Int) Vt.c1 (W.iter1 (Vt.l1 ([a,0]:List Int) Vt.c1) 0) (w64 (w64 (0+1)+1)) _
   exact W.dec_i (fun k=>by simp [w64_id] at k) (fun _=>hq)
def cfI (a b:Jw):Int:=if a.x.low<b.x.low then -1 else if b.x.low<a.x.low then 1 else a.index-b.index
def cfM (a b:Meet):Int:=if a.A-b.A≠0 then a.A-b.A else a.B-b.B
theorem cfI_ok (xs:List Jw):SWOn cfI xs:={
 irrefl:=fun x _=>by unfold cfI;split<;>(try split)<;>omega
 trans:=fun x y z _ _ _=>by
  unfold cfI
  split<;>(try split)<;>(try split)<;>(try split)<;>(try split)<;>(try split)<;>omega
 ntrans:=fun x y z _ _ _=>by
  unfold cfI
  split<;>(try split)<;>(try split)<;>(try split)<;>(try split)<;>(try split)<;>omega }
theorem cfM_ok (xs:List Meet):SWOn cfM xs:={
 irrefl:=fun x _=>by unfold cfM;split<;>omega
 trans:=fun x y z _ _ _=>by
  unfold cfM
  split<;>split<;>split<;>omega
 ntrans:=fun x y z _ _ _=>by
  unfold cfM
  split<;>split<;>split<;>omega }
theorem cmpI_b {a b:Jw} (ha:0≤a.index∧a.index≤20000) (hb:0≤b.index∧b.index≤20000):zu.F a b (fun r=>r=cfI a b):=by
 refine W.bind_i (cmpi_b (W.bind_i (or_b ?_)))
 rw [w64_id (by omega) (by omega)]
 show (if _≠0 then _ else _)=cfI a b
 unfold cfI
 by_cases h1:a.x.low<b.x.low
 ·rw [if_pos h1];simp [h1]
 ·rw [if_neg h1]
  by_cases h2:b.x.low<a.x.low
  ·rw [if_pos h2];simp [h1,h2]
  ·rw [if_neg h2];simp [h1,h2]
theorem cmpM_b {a b:Meet} (ha:0≤a.A∧a.A≤20000∧0≤a.B∧a.B≤20000) (hb:0≤b.A∧b.A≤20000∧0≤b.B∧b.B≤20000):zq.F a b (fun r=>r=cfM a b):=by
 refine W.bind_i (or_b ?_)
 rw [w64_id (x:=a.A-b.A) (by omega) (by omega),w64_id (x:=a.B-b.B) (by omega) (by omega)]
 rfl
abbrev sx (l:List Segment) (i:Nat):Segment:=rd zSegment l (i:Int)
abbrev it (l:List Segment) (i:Nat):Jw:=mkI i (sx l i)
def Ent (l:List Segment) (e:Meet):Prop:=∃ i j:Nat,i<j∧j<l.length∧e.A=(i:Int)∧e.B=(j:Int)∧MeetsR (sx l i) (sx l j) e.Kind∧e.Kind≠0
def entOf (a b:Int) (k:Int):Meet:=⟨(if b<a then b else a),(if a<b then b else a),k⟩
theorem ent_of {l:List Segment} {i j:Nat} {k:Int} (hij:i≠j) (hi:i<l.length) (hj:j<l.length) (h:MeetsR (sx l i) (sx l j) k) (hk:k≠0):Ent l (entOf (i:Int) (j:Int) k):=by
 unfold entOf
 by_cases c:i<j
 ·exact ⟨i,j,c,hj,by dsimp only;rw [if_neg (by omega)],by dsimp only;rw [if_pos (by omega)],h,hk⟩
 ·exact ⟨j,i,by omega,hi,by dsimp only;rw [if_pos (by omega)],by dsimp only;rw [if_neg (by omega)],h.symm,hk⟩
theorem sweep_l2 {l ys act:_} {t:Jw} {p:Nat} (hl:l.length≤20000) (hact:act.length≤20000) (hr:rd Jz ys (p:Int)=t) (hp:p<ys.length) {it0:Nat} (ht:it0<l.length∧t=it l it0) (hu:∀ u∈act,∃ j,j<l.length∧j≠it0∧u=it l j) {M0:List Meet} (hM:M0.length≤500000000) {K:List Meet→W ((List Meet)×Int)} {Q:(List Meet)×Int→Prop} (hq:∀ M,M.length≤M0.length+20000→(∀ e∈M,e∈M0∨Ent l e)→(∀ e∈M0,e∈M)→(∀ j,j<l.length→it l j∈act→∀ k,MeetsR (sx l it0) (sx l j) k→k≠0→entOf (it0:Int) (j:Int) k∈M)→K M Q):(W.ex fun n=>W.iter2 (Ve.l2 ys (p:Int) act K) n M0 (0:Int)) Q:=by
 obtain ⟨ht1,rfl⟩:=ht
 refine W.up2 act.length (fun q M=>M.length≤M0.length+q∧(∀ e∈M,e∈M0∨Ent l e)∧(∀ e∈M0,e∈M)∧(∀ j,j<l.length→it l j∈act.take q→∀ k,MeetsR (sx l it0) (sx l j) k→k≠0→entOf (it0:Int) (j:Int) k∈M)) ⟨by omega,fun e he=>.inl he,fun e he=>he,fun j hj hm=>by simp at hm⟩ (fun K2 q M hq' hI hK=>?_)
 obtain ⟨i1,i2,i3,i4⟩:=hI
 refine W.dec_i (fun hlt=>?_) (fun hge=>?_)
 ·have hqa:q<act.length:=by omega
  rw [rd_nat hqa,hr]
  obtain ⟨j0,hj0,hne,eu⟩:=hu _ (List.getElem_mem hqa)
  rw [eu]
  have htk:act.take (q+1)=act.take q++[it l j0]:=by rw [List.take_add_one,List.getElem?_eq_getElem hqa,eu];rfl
  have inj:∀ j,it l j=it l j0→j=j0:=fun j h=>by
   have:=congrArg Jw.index h
   have:(j:Int)=(j0:Int):=this
   omega
  have keep:(∀ k,MeetsR (sx l it0) (sx l j0) k→k=0)→K2 M (w64 ((q:Int)+1)) Q:=fun hno=>by
   rw [w64_succ (by omega)]
   refine hK hqa M ⟨by omega,i2,i3,fun j hj hm k hk hk0=>?_⟩
   rw [htk] at hm
   rcases List.mem_append.1 hm with hm | hm
   ·exact i4 j hj hm k hk hk0
   ·rw [List.mem_singleton] at hm
    have:=inj j hm
    subst this
    exact absurd (hno k hk) hk0
  refine W.req_i ⟨by omega,by omega⟩ (W.req_i ⟨by omega,hlt⟩ (W.bind_i ?_))
  refine W.ite_i (fun hb=>keep fun k hk=>?_) (fun hb=>W.bind_i (meets_b fun k hk=>W.ite_i (fun hk0=>?_) (fun hk0=>keep fun k' hk'=>?_)))
  ·apply Classical.byContradiction
   intro hk0
   have b1:=(box_one hk hk0).2
   have b2:=(box_one hk.symm hk0).2
   rw [Bool.not_eq_true',Bool.and_eq_false_iff,decide_eq_false_iff_not,decide_eq_false_iff_not] at hb
   rcases hb with hb | hb
   ·exact hb b1
   ·exact hb b2
  ·rw [bne_iff_ne] at hk0
   refine W.req_i (by simp;omega) ?_
   rw [w64_succ (by omega)]
   have he:Ent l (entOf (it0:Int) (j0:Int) k):=ent_of (fun h=>hne h.symm) ht1 hj0 hk hk0
   refine hK hqa _ ⟨by simp;omega,fun e hm=>?_,fun e hm=>List.mem_append_left _ (i3 e hm),fun j hj hm k' hk' hk0'=>?_⟩
   ·rcases List.mem_append.1 hm with hm | hm
    ·exact i2 e hm
    ·rw [List.mem_singleton] at hm
     right;rw [hm];exact he
   ·rw [htk] at hm
    rcases List.mem_append.1 hm with hm | hm
    ·exact List.mem_append_left _ (i4 j hj hm k' hk' hk0')
    ·rw [List.mem_singleton] at hm
     have:=inj j hm
     subst this
     have ek:=hk'.unique hk
     subst ek
     exact List.mem_append_right _ (List.mem_singleton.2 rfl)
  ·rw [bne_eq_false_iff_eq] at hk0
   exact (hk'.unique hk).trans hk0
 ·have:q=act.length:=by omega
  subst this
  rw [List.take_length] at i4
  exact hq M (by omega) i2 i3 i4
theorem two_in {I:List Nat} {i j:Nat} (hi:i∈I) (hj:j∈I) (hij:i≠j):∃ A c B,I=A++c::B∧(c=i∧j∈A∨c=j∧i∈A):=by
 obtain ⟨A,B,rfl⟩:=List.append_of_mem hj
 rcases List.mem_append.1 hi with h | h
 ·exact ⟨A,j,B,rfl,.inr ⟨rfl,h⟩⟩
 ·rcases List.mem_cons.1 h with h | h
  ·exact absurd h hij
  ·obtain ⟨B1,B2,rfl⟩:=List.append_of_mem h
   exact ⟨A++j::B1,i,B2,by simp,.inl ⟨rfl,by simp⟩⟩
theorem split_eq {α:Type} {A A' B B':List α} {c c':α} (h:A++c::B=A'++c'::B') (hl:A.length=A'.length):A=A'∧c=c'∧B=B':=by
 have:=List.append_inj h hl
 obtain ⟨h1,h2⟩:=this
 injection h2 with h2 h3
 exact ⟨h1,h2,h3⟩
theorem sweep_run {l:List Segment} (hl:l.length≤20000) {I:List Nat} (hI:I.Perm (List.range l.length)) (hs:(I.map (it l)).Pairwise (fun a b=>a.x.low≤b.x.low)) {Q:(List Meet)×Int→Prop} (hq:∀ R:List Meet,(∀ e∈R,Ent l e)→(∀ (i j:Nat) (k:Int),i<j→j<l.length→MeetsR (sx l i) (sx l j) k→k≠0→(⟨(i:Int),(j:Int),k⟩:Meet)∈R)→R.length≤500000000→Q (R,0)):(W.ex fun n=>W.iter3 (Ve.l1 (I.map (it l)) Ve.c2) n ([]:List Meet) ([]:List Jw) (0:Int)) Q:=by
 have hIl:I.length=l.length:=by rw [hI.length_eq];simp
 have hmem:∀ j,j∈I↔j<l.length:=fun j=>by rw [hI.mem_iff];simp
 have hnd:I.Nodup:=hI.nodup_iff.2 List.nodup_range
 refine W.up3 I.length (fun p M act=>act.length≤p∧(∀ u∈act,∃ j,j∈I.take p∧u=it l j)∧(∀ j∈I.take p,it l j∉act→∀ j'∈I.drop p,(it l j).x.high<(it l j').x.low)∧M.length≤20000*p∧(∀ e∈M,Ent l e)∧(∀ A c B,I=A++c::B→A.length<p→∀ j∈A,∀ k,MeetsR (sx l c) (sx l j) k→k≠0→entOf (c:Int) (j:Int) k∈M)) ⟨by simp,by simp,by simp,by simp,by simp,fun A c B _ h=>by omega⟩ (fun K p M act hp hInv hK=>?_)
 obtain ⟨a1,a2,a3,m1,m2,m3⟩:=hInv
 refine W.dec_i (fun hlt=>?_) (fun hge=>?_)
 ·have hpI:p<I.length:=by rw [List.length_map] at hlt;omega
  have eI:I=I.take p++I[p]::I.drop (p+1):=by simp
  have hdr:I.drop p=I[p]::I.drop (p+1):=by simp
  have htk:I.take (p+1)=I.take p++[I[p]]:=by rw [List.take_add_one,List.getElem?_eq_getElem hpI];rfl
  generalize hA:I.take p=A at *
  generalize hB:I.drop (p+1)=B at *
  generalize ht:I[p]=t at *
  have hAl:A.length=p:=by rw [← hA,List.length_take];omega
  have hrd:rd Jz (I.map (it l)) (p:Int)=it l t:=by
   rw [eI,List.map_append,List.map_cons];exact rd_mid (by simp [hAl])
  have htm:t<l.length:=(hmem t).1 (by rw [eI];simp)
  have hnd':=hnd
  rw [eI,List.nodup_append] at hnd'
  have hst:=hs
  rw [eI,List.map_append,List.map_cons,List.pairwise_append,List.pairwise_cons] at hst
  rw [hrd]
  refine W.req_i ⟨by omega,hlt⟩ (W.req_i ⟨by omega,hlt⟩ (W.bind_i (delete_b (by omega) ?_)))
  have hfl:(act.filter (keepI (it l t))).length≤p:=Nat.le_trans (List.length_filter_le _ _) a1
  have hact':∀ u∈act.filter (keepI (it l t)),∃ j,j∈A∧u=it l j:=fun u hu=>a2 u (List.mem_filter.1 hu).1
  have gone:∀ j∈A,it l j∉act.filter (keepI (it l t))→(it l j).x.high<(it l t).x.low:=fun j hj hn=>by
   by_cases hja:it l j∈act
   ·apply Classical.byContradiction
    intro hk
    exact hn (List.mem_filter.2 ⟨hja,by unfold keepI;simpa using hk⟩)
   ·exact a3 j hj hja t (by rw [hdr];simp)
  refine sweep_l2 hl (by omega) hrd (by rw [List.length_map];omega) ⟨htm,rfl⟩ (fun u hu=>?_) (by omega) (fun M' n1 n2 n3 n4=>?_)
  ·obtain ⟨j,hj,e⟩:=hact' u hu
   refine ⟨j,(hmem j).1 (by rw [eI];simp [hj]),?_,e⟩
   exact hnd'.2.2 j hj t (by simp)
  ·show Ve.c4 (I.map (it l)) (p:Int) (Ve.c3 (p:Int) K) (act.filter (keepI (it l t))) M' Q
   unfold Ve.c4
   rw [hrd]
   refine W.req_i (by simp only [List.length_cons,List.length_nil];omega) ?_
   show K M' _ (w64 ((p:Int)+1)) Q
   rw [w64_succ (by omega)]
   refine hK hpI _ _ ⟨by simp;omega,fun u hu=>?_,fun j hj hn j' hj'=>?_,by omega,fun e he=>?_,fun A' c B' hE hlen j hj k hk hk0=>?_⟩
   ·rw [htk]
    rcases List.mem_append.1 hu with hu | hu
    ·obtain ⟨j,hj,e⟩:=hact' u hu
     exact ⟨j,List.mem_append_left _ hj,e⟩
    ·exact ⟨t,by simp,List.mem_singleton.1 hu⟩
   ·rw [htk] at hj
    rcases List.mem_append.1 hj with hj | hj
    ·have:=gone j hj (fun h=>hn (List.mem_append_left _ h))
     have h2:=hst.2.1.1 (it l j') (List.mem_map_of_mem hj')
     omega
    ·rw [List.mem_singleton] at hj
     subst hj
     exact absurd (List.mem_append_right _ (List.mem_singleton.2 rfl)) hn
   ·rcases n2 e he with h | h
    ·exact m2 e h
    ·exact h
   ·by_cases hlp:A'.length<p
    ·exact n3 _ (m3 A' c B' hE hlp j hj k hk hk0)
    ·have:=split_eq (eI.symm.trans hE) (by omega)
     obtain ⟨rfl,rfl,rfl⟩:=this
     by_cases hja:it l j∈act.filter (keepI (it l t))
     ·exact n4 j ((hmem j).1 (by rw [eI];simp [hj])) hja k hk hk0
     ·have:=gone j hj hja
      have b1:=(box_one hk hk0).1
      have:(bx (sx l j).A.X (sx l j).B.X).high<(bx (sx l t).A.X (sx l t).B.X).low:=this
      omega
 ·have hpI:p=I.length:=by rw [List.length_map] at hge;omega
  subst hpI
  refine W.bind_i ⟨by omega,cfM,cfM_ok M,fun u v hu hv=>cmpM_b ?_ ?_,fun ys hys _=>?_⟩
  ·obtain ⟨i,j,h1,h2,h3,h4,_⟩:=m2 u hu
   omega
  ·obtain ⟨i,j,h1,h2,h3,h4,_⟩:=m2 v hv
   omega
  ·refine hq ys (fun e he=>m2 e (hys.mem_iff.1 he)) (fun i j k hij hj hk hk0=>hys.mem_iff.2 ?_) (by have:=hys.length_eq;omega)
   obtain ⟨A,c,B,hE,h⟩:=two_in ((hmem i).2 (by omega)) ((hmem j).2 hj) (by omega)
   have hlen:A.length<I.length:=by rw [hE];simp
   rcases h with ⟨rfl,h⟩ | ⟨rfl,h⟩
   ·have:=m3 A c B hE hlen j h k hk hk0
    unfold entOf at this
    rw [if_neg (by omega),if_pos (by omega)] at this
    exact this
   ·have:=m3 A c B hE hlen i h k hk.symm hk0
    unfold entOf at this
    rw [if_pos (by omega),if_neg (by omega)] at this
    exact this
theorem sweep_All_b {l:List Segment} (hl:l.length≤20000) {Q:(List Meet)×Int→Prop} (hq:∀ R:List Meet,(∀ e∈R,Ent l e)→(∀ (i j:Nat) (k:Int),i<j→j<l.length→MeetsR (sx l i) (sx l j) k→k≠0→(⟨(i:Int),(j:Int),k⟩:Meet)∈R)→R.length≤500000000→Q (R,0)):Ve.F l Q:=by
 refine W.dec_i (fun k=>by omega) (fun _=>W.req_i ⟨by omega,by omega,by omega⟩ ?_)
 refine W.up2 l.length (fun i x=>x=(List.range i).map (it l)++List.replicate (l.length-i) Jz) (by simp) (fun K i x hi hI hK=>?_)
 subst hI
 refine W.dec_i (fun hlt=>W.req_i ⟨by omega,hlt⟩ (W.bind_i (W.bind_i (W.req_i ⟨by omega,by simp;omega⟩ ?_)))) (fun hge=>?_)
 ·have hi':i<l.length:=by omega
  rw [w64_succ (by omega)]
  refine hK hi' _ ?_
  rw [show l.length-i=(l.length-(i+1))+1 by omega,List.replicate_succ,show ((i:Nat):Int).toNat=i by omega,set_mid _ _ _ _ (by simp),List.range_succ,List.map_append]
  simp only [List.map_cons,List.map_nil,List.append_assoc,List.cons_append,List.nil_append]
  rfl
 ·have:i=l.length:=by omega
  subst this
  rw [Nat.sub_self,List.replicate_zero,List.append_nil]
  have hbd:∀ u∈(List.range l.length).map (it l),∃ j,j<l.length∧u=it l j:=fun u hu=>by
   obtain ⟨j,hj,rfl⟩:=List.mem_map.1 hu
   exact ⟨j,by simpa using hj,rfl⟩
  refine W.bind_i ⟨by simp;omega,cfI,cfI_ok _,fun u v hu hv=>cmpI_b ?_ ?_,fun ys hys hp=>?_⟩
  ·obtain ⟨j,hj,rfl⟩:=hbd u hu
   show 0≤(j:Int)∧(j:Int)≤20000
   omega
  ·obtain ⟨j,hj,rfl⟩:=hbd v hv
   show 0≤(j:Int)∧(j:Int)≤20000
   omega
  ·have hy:ys=(ys.map fun u=>u.index.toNat).map (it l):=by
    rw [List.map_map]
    refine ((List.map_congr_left (g:=id) fun u hu=>?_).trans (List.map_id _)).symm
    obtain ⟨j,hj,rfl⟩:=hbd u (hys.mem_iff.1 hu)
    show it l ((j:Int)).toNat=it l j
    rw [show ((j:Nat):Int).toNat=j by omega]
   have hI:(ys.map fun u=>u.index.toNat).Perm (List.range l.length):=by
    refine (hys.map _).trans ?_
    rw [List.map_map,List.map_congr_left (g:=id) (fun j _=>?_),List.map_id]
    show ((j:Int)).toNat=j
    omega
   have hso:((ys.map fun u=>u.index.toNat).map (it l)).Pairwise (fun a b=>a.x.low≤b.x.low):=by
    rw [← hy]
    refine hp.imp fun {a b} h=>?_
    unfold cfI at h
    split at h<;>(try split at h)<;>omega
   have:=sweep_run hl hI hso hq
   rw [← hy] at this
   exact this
end Go.Gp.Gb
end
section
set_option linter.unusedVariables false
set_option linter.unusedSimpArgs false
set_option maxRecDepth 10000
namespace Go.Gp
theorem W.loop4 {A C D E R:Type} {B:(A→C→D→E→W R)→A→C→D→E→W R} {Q:R→Prop} (I:A→C→D→E→Prop) (m:A→C→D→E→Nat) (step:∀ K x u s r,I x u s r→(∀ y v t q,I y v t q→m y v t q<m x u s r→K y v t q Q)→B K x u s r Q) {x:A} {u:C} {s:D} {r:E} (h:I x u s r):(W.ex fun n=>W.iter4 B n x u s r) Q:=by
 have key:∀ n x u s r,I x u s r→m x u s r<n→W.iter4 B n x u s r Q:=by
  intro n
  induction n with
  | zero=>intro x u s r _ hm;omega
  | succ n ih=>intro x u s r hx hm;exact step _ x u s r hx fun y v t q hy hlt=>ih y v t q hy (by omega)
 exact ⟨m x u s r+1,key _ x u s r h (by omega)⟩
theorem mset_mem {κ ν:Type} [DecidableEq κ] {k:κ} {v:ν} {e:κ×ν}:∀ {m:List (κ×ν)},e∈mset k v m→e=(k,v)∨e∈m
 | [],h=>by simp [mset] at h;exact .inl h
 | (a,x)::m,h=>by
  simp only [mset] at h
  split at h
  ·rcases List.mem_cons.1 h with h | h
   ·exact .inl h
   ·exact .inr (List.mem_cons_of_mem _ h)
  ·rcases List.mem_cons.1 h with h | h
   ·exact .inr (by rw [h];simp)
   ·exact (mset_mem h).imp id (List.mem_cons_of_mem _)
theorem mset_len {κ ν:Type} [DecidableEq κ] {k:κ} {v:ν} {m:List (κ×ν)}:(mset k v m).length≤m.length+1:=by
 have:=congrArg List.length (keys_mset k v m)
 rw [List.length_map] at this
 rw [this]
 split<;>simp
theorem mset_key {κ ν:Type} [DecidableEq κ] {k k':κ} {v:ν} {m:List (κ×ν)}:k'∈(mset k v m).map (·.1)↔k'=k∨k'∈m.map (·.1):=by
 rw [keys_mset]
 split
 ·rename_i h
  constructor
  ·exact .inr
  ·rintro (rfl | h')
   ·exact h
   ·exact h'
 ·rw [List.mem_append,List.mem_singleton,or_comm]
theorem mset_nodup {κ ν:Type} [DecidableEq κ] {k:κ} {v:ν} {m:List (κ×ν)} (h:(m.map (·.1)).Nodup):((mset k v m).map (·.1)).Nodup:=by
 rw [keys_mset]
 split
 ·exact h
 ·rename_i hh
  rw [List.nodup_append]
  exact ⟨h,by simp,fun a ha b hb e=>by simp at hb;subst hb;subst e;exact hh ha⟩
end Go.Gp
namespace Go.Gp.Gb
open Geo
abbrev IK:=(Int×Int)×Int
structure Pairs (l:List Segment) (x:List IK):Prop where
 each:∀ e∈x,∃ i j:Nat,i<j∧j<l.length∧e.1=((i:Int),(j:Int))∧MeetsR (sx l i) (sx l j) e.2∧e.2≠0
 all:∀ (i j:Nat) (k:Int),i<j→j<l.length→MeetsR (sx l i) (sx l j) k→k≠0→∃ e∈x,e.1=((i:Int),(j:Int))
 len:x.length≤500000000
theorem rd_range {n i:Nat} (h:i<n):rd (0:Int) ((List.range n).map fun (i:Nat)=>(i:Int)) (i:Int)=(i:Int):=by
 rw [rd_nat (by simpa using h)];simp
theorem meets_m_b {l:List Segment} (hl:l.length≤20000) {Q:List IK→Prop} (hq:∀ x,Pairs l x→Q x):vu.F l ((List.range l.length).map fun (i:Nat)=>(i:Int)) ([]:List IK) Q:=by
 refine ⟨1,?_⟩
 refine W.loop4 (B:=vu.l5 l ((List.range l.length).map fun (i:Nat)=>(i:Int)) (vu.c1 (vu.Fn 0) l ((List.range l.length).map fun (i:Nat)=>(i:Int)) [])) (fun x lo hi t=>∃ i:Nat,i≤l.length∧t=(i:Int)∧x=l.take i) (fun x lo hi t=>l.length-t.toNat) (fun K x lo hi t hI hk=>?_) ⟨0,by omega,rfl,by simp⟩
 obtain ⟨i,hi',rfl,rfl⟩:=hI
 refine W.dec_i (fun hlt=>?_) (fun hge=>?_)
 ·have hil:i<l.length:=by simp at hlt;omega
  rw [rd_range hil]
  have next:∀ lo hi,K (l.take i++[sx l i]) lo hi (w64 ((i:Int)+1)) Q:=fun lo hi=>by
   rw [w64_succ (by omega)]
   refine hk _ _ _ _ ⟨i+1,hil,rfl,?_⟩ (by omega)
   rw [List.take_add_one,List.getElem?_eq_getElem hil,sx,rd_nat hil];rfl
  refine W.req_i ⟨by omega,hlt⟩ (W.req_i ⟨by omega,by omega⟩ (W.req_i (by simp;omega) (W.ite_same ?_ ?_)))
  ·show vu.c7 _ _ _ _ _ _ _ Q
   unfold vu.c7
   rw [rd_range hil]
   exact next _ _
  ·show vu.c7 _ _ _ _ _ _ _ Q
   unfold vu.c7
   rw [rd_range hil]
   exact next _ _
 ·have:i=l.length:=by simp at hge;omega
  subst this
  rw [List.take_length]
  refine W.dec_i (fun _=>W.bind_i (sweep_All_b hl fun R hR1 hR2 hR3=>?_)) (fun k=>by omega)
  refine W.up2 R.length (fun p x=>(∀ e∈x,∃ i j:Nat,i<j∧j<l.length∧e.1=((i:Int),(j:Int))∧MeetsR (sx l i) (sx l j) e.2∧e.2≠0)∧(∀ e∈R.take p,(e.A,e.B)∈x.map (·.1))∧x.length≤p) ⟨by simp,by simp,by simp⟩ (fun K2 p x hp hI hK2=>?_)
  obtain ⟨h1,h2,h3⟩:=hI
  refine W.dec_i (fun hlt=>?_) (fun hge2=>?_)
  ·have hpR:p<R.length:=by
    have:(p:Int)<(R.length:Int):=hlt
    omega
   have he:=hR1 _ (List.getElem_mem hpR)
   dsimp only
   rw [rd_nat hpR]
   have htk:R.take (p+1)=R.take p++[R[p]]:=by rw [List.take_add_one,List.getElem?_eq_getElem hpR];rfl
   generalize R[p]=e at *
   have he0:=he
   obtain ⟨i,j,hij,hj,eA,eB,hm,hk0⟩:=he
   rw [eA,eB,rd_range (by omega),rd_range hj]
   refine W.req_i ⟨by omega,hlt⟩ (W.req_i ⟨by omega,hlt⟩ (W.req_i ⟨by omega,by simp;omega⟩ (W.req_i ⟨by omega,by simp;omega⟩ ?_)))
   rw [w64_succ (by omega)]
   refine hK2 hpR _ ⟨fun e' he'=>?_,fun e' he'=>?_,?_⟩
   ·rcases mset_mem he' with rfl | he'
    ·exact ⟨i,j,hij,hj,rfl,hm,hk0⟩
    ·exact h1 e' he'
   ·rw [htk] at he'
    rw [mset_key]
    rcases List.mem_append.1 he' with he' | he'
    ·exact .inr (h2 e' he')
    ·rw [List.mem_singleton] at he'
     left;rw [he',eA,eB]
   ·have:=mset_len (k:=((i:Int),(j:Int))) (v:=e.Kind) (m:=x)
    omega
  ·have:p=R.length:=by
    have:¬ (p:Int)<(R.length:Int):=hge2
    omega
   subst this
   rw [List.take_length] at h2
   refine hq x ⟨h1,fun i j k hij hj hk' hk0=>?_,by omega⟩
   have:=h2 _ (hR2 i j k hij hj hk' hk0)
   obtain ⟨e,he,e1⟩:=List.mem_map.1 this
   exact ⟨e,he,e1⟩
structure Tm (t:List (Key×Bool)) (P:Key→Prop) (c:Nat):Prop where
 mem:∀ k,k∈t.map (·.1)↔P k
 nodup:(t.map (·.1)).Nodup
 len:t.length≤c
theorem Tm.note {t:List (Key×Bool)} {P:Key→Prop} {c:Nat} (h:Tm t P c) {a b:ByteArray} {P':Key→Prop} (hP:∀ k,P' k↔P k∨k=key a b) {c':Nat} (hc:c+1≤c'):Tm (mset (key a b) true t) P' c':=
 ⟨fun k=>by rw [mset_key,h.mem,hP,or_comm],mset_nodup h.nodup,by have:=mset_len (k:=key a b) (v:=true) (m:=t);have:=h.len;omega⟩
theorem Tm.mono {t:List (Key×Bool)} {P:Key→Prop} {c:Nat} (h:Tm t P c) {P':Key→Prop} (hP:∀ k,P' k↔P k) {c':Nat} (hc:c≤c'):Tm t P' c':=⟨fun k=>by rw [h.mem,hP],h.nodup,by have:=h.len;omega⟩
def Ends (L:List Key) (i:Nat):List ByteArray:=(L.take i).flatMap fun s=>[s.1,s.2]
structure AtM (m:Map) (S:List ByteArray) (x:List (Point×List ByteArray)):Prop where
 mem:∀ p id,id∈mget p [] x↔id∈S∧pos m id=p
 len:∀ p,(mget p [] x).length≤S.length
def K2 (m:Map) (S:List ByteArray) (k:Key):Prop:=∃ a∈S,∃ b∈S,a≠b∧pos m a=pos m b∧k=key a b
theorem key_comm (a b:ByteArray):key a b=key b a:=by
 unfold key
 rcases sLt_tri a b with h | h | h
 ·have:=sMin_lt h
  rw [this.1,this.2.1,this.2.2.1,this.2.2.2]
 ·subst h;rfl
 ·have:=sMin_lt h
  rw [this.1,this.2.1,this.2.2.1,this.2.2.2]
theorem check_step {m:Map} (h:MapOk m) {x0:List (ByteArray×Int)} (hx:AtIs m x0) {S:List ByteArray} (hS:S.length≤200000) {id:ByteArray} (hid:Nd m id) {x:List (Point×List ByteArray)} (hA:AtM m S x) {t:List (Key×Bool)} {c:Nat} (hT:Tm t (K2 m S) c) {L:List Key} {i:Nat} (hi:i<L.length) {j:Nat} (hj:j<2) (hidj:wt (kx L i) (j:Int)=id) {A:(List (Point×(List ByteArray)))→(List ((ByteArray×ByteArray)×Bool))→Int→W (List Violation)} {Kk:(List (Point×(List ByteArray)))→(List ((ByteArray×ByteArray)×Bool))→W (List Violation)} {Q:List Violation→Prop} (hq:∀ x' t',AtM m (S++[id]) x'→Tm t' (K2 m (S++[id])) (c+S.length)→A x' t' ((j+1:Nat):Int) Q):Jq.l7 (⟨m,x0⟩,true) (L.map (ln (owners m))) (i:Int) Kk A x t (j:Int) Q:=by
 have hnodes:(rd Vd (L.map (ln (owners m))) (i:Int)).nodes=kx L i:=by rw [rd_mapk hi];rfl
 unfold Jq.l7
 refine W.dec_i (fun _=>W.req_i ⟨by omega,by omega⟩ ?_) (fun k=>by omega)
 rw [hnodes,hidj]
 have hml:(mget (pos m id) [] x).length≤S.length:=hA.len _
 refine W.bind_i (point_b h hx hid (W.bind_i (contains_b (by omega) fun b hb=>?_)))
 have old:∀ k,id∈S→(K2 m (S++[id]) k↔K2 m S k):=fun k hin=>by
  unfold K2
  have:∀ a,a∈S++[id]↔a∈S:=fun a=>by
   rw [List.mem_append,List.mem_singleton]
   exact ⟨fun h=>h.elim _root_.id fun e=>e ▸ hin,.inl⟩
  simp only [this]
 refine W.ite_i (fun hf=>?_) (fun hf=>?_)
 ·rw [Bool.not_eq_true'] at hf
  have hnew:id∉S:=fun hin=>by rw [hb.2 ((hA.mem _ _).2 ⟨hin,rfl⟩)] at hf;cases hf
  refine W.up2 (mget (pos m id) [] x).length (fun q t'=>Tm t' (fun k=>K2 m S k∨∃ a∈(mget (pos m id) [] x).take q,k=key a id) (c+q)) (hT.mono (by simp) (by omega)) (fun K3 q t' hq' hI hK=>?_)
  refine W.dec_i (fun hlt=>?_) (fun hge=>?_)
  ·have hq2:q<(mget (pos m id) [] x).length:=by omega
   rw [hnodes,hidj,rd_nat hq2]
   refine W.req_i ⟨by omega,hlt⟩ (W.req_i ⟨by omega,hlt⟩ (W.bind_i ?_))
   show K3 (mset (key _ _) true t') _ Q
   rw [w64_succ (by omega)]
   refine hK hq2 _ (hI.note (fun k=>?_) (by omega))
   rw [List.take_add_one,List.getElem?_eq_getElem hq2]
   simp only [Option.toList_some,List.mem_append,List.mem_singleton]
   constructor
   ·rintro (k1 | ⟨a,ha | ha,e⟩)
    ·exact .inl (.inl k1)
    ·exact .inl (.inr ⟨a,ha,e⟩)
    ·exact .inr (ha ▸ e)
   ·rintro ((k1 | ⟨a,ha,e⟩) | e)
    ·exact .inl k1
    ·exact .inr ⟨a,.inl ha,e⟩
    ·exact .inr ⟨_,.inr rfl,e⟩
  ·have hql:q=(mget (pos m id) [] x).length:=by
    have:¬ (q:Int)<((mget (pos m id) [] x).length:Int):=hge
    omega
   subst hql
   rw [List.take_length] at hI
   show Jq.c9 _ _ _ _ _ _ _ Q
   unfold Jq.c9
   rw [hnodes,hidj]
   refine W.req_i (by simp only [List.length_cons,List.length_nil];omega) ?_
   show A _ _ (w64 ((j:Int)+1)) Q
   rw [w64_succ (by omega)]
   refine hq _ _ ⟨fun p id'=>?_,fun p=>?_⟩ (hI.mono (fun k=>?_) (by omega))
   ·rw [mget_mset,List.mem_append,List.mem_singleton]
    by_cases e:pos m id=p
    ·rw [if_pos e,List.mem_append,List.mem_singleton,hA.mem]
     subst e
     constructor
     ·rintro (k | rfl)
      ·exact ⟨.inl k.1,k.2⟩
      ·exact ⟨.inr rfl,rfl⟩
     ·rintro ⟨k | k,k2⟩
      ·exact .inl ⟨k,k2⟩
      ·exact .inr k
    ·rw [if_neg e,hA.mem]
     constructor
     ·exact fun k=>⟨.inl k.1,k.2⟩
     ·rintro ⟨k | rfl,k2⟩
      ·exact ⟨k,k2⟩
      ·exact absurd k2 e
   ·rw [mget_mset]
    have:=hA.len p
    split<;>simp<;>omega
   ·unfold K2
    constructor
    ·rintro ⟨a,ha,b,hb',hne,hp,e⟩
     rw [List.mem_append,List.mem_singleton] at ha hb'
     rcases ha with ha | rfl
     ·rcases hb' with hb' | rfl
      ·exact .inl ⟨a,ha,b,hb',hne,hp,e⟩
      ·exact .inr ⟨a,(hA.mem _ _).2 ⟨ha,hp⟩,e⟩
     ·rcases hb' with hb' | rfl
      ·exact .inr ⟨b,(hA.mem _ _).2 ⟨hb',hp.symm⟩,e.trans (key_comm _ _)⟩
      ·exact absurd rfl hne
    ·rintro (⟨a,ha,b,hb',hne,hp,e⟩ | ⟨a,ha,e⟩)
     ·exact ⟨a,List.mem_append_left _ ha,b,List.mem_append_left _ hb',hne,hp,e⟩
     ·have:=(hA.mem _ _).1 ha
      exact ⟨a,List.mem_append_left _ this.1,id,List.mem_append_right _ (by simp),fun e=>hnew (e ▸ this.1),this.2,e⟩
 ·rw [Bool.not_eq_false'] at hf
  have hin:id∈S:=((hA.mem _ _).1 (hb.1 hf)).1
  show A _ _ (w64 ((j:Int)+1)) Q
  rw [w64_succ (by omega)]
  refine hq _ _ ⟨fun p id'=>?_,fun p=>?_⟩ (hT.mono (fun k=>old k hin) (by omega))
  ·rw [hA.mem,List.mem_append,List.mem_singleton]
   constructor
   ·exact fun k=>⟨.inl k.1,k.2⟩
   ·rintro ⟨k | rfl,k2⟩
    ·exact ⟨k,k2⟩
    ·exact ⟨hin,k2⟩
  ·have:=hA.len p
   simp;omega
end Go.Gp.Gb
end
section
set_option linter.unusedVariables false
set_option linter.unusedSimpArgs false
set_option maxRecDepth 10000
namespace Go.Gp.Gb
open Geo
theorem flat_len {m:Map} (hr:∀ i:Nat,i<m.Objects.length→(ob m i).Refs.length≤12):∀ n,n≤m.Objects.length→((List.range n).flatMap fun i=>sides (ob m i)).length≤12*n
 | 0,_=>by simp
 | n+1,h=>by
  rw [List.range_succ,List.flatMap_append,List.length_append]
  have h1:=flat_len hr n (by omega)
  have h2:=sides_len (o:=ob m n)
  have h3:=hr n (by omega)
  simp only [List.flatMap_cons,List.flatMap_nil,List.append_nil]
  omega
theorem few_lines40 {m:Map} (hfew:FewP m 40) {L:List Key} (hL:Ks (owners m) L):L.length≤480:=by
 have hnd:L.Nodup:=hL.rise.imp fun h=>h.ne
 have:=List.Nodup.length_le_of_subset hnd (l₂:=(List.range m.Objects.length).flatMap fun i=>sides (ob m i)) (fun s hs=>by
  obtain ⟨a,ha⟩:=List.exists_mem_of_ne_nil _ ((hL.mem s).1 hs)
  obtain ⟨i,hi,_,_,h2⟩:=own_mem.1 ha
  exact List.mem_flatMap.2 ⟨i,by simpa using hi,h2⟩)
 have h2:=flat_len hfew.refs m.Objects.length (Nat.le_refl _)
 have h3:=hfew.few
 omega
theorem ends_succ {L:List Key} {i:Nat} (hi:i<L.length):Ends L (i+1)=Ends L i++[(kx L i).1,(kx L i).2]:=by
 unfold Ends
 rw [List.take_add_one,List.getElem?_eq_getElem hi,kx,rd_nat hi,List.flatMap_append]
 simp
theorem ends_len {L:List Key}:∀ i,(Ends L i).length≤2*i
 | 0=>by simp [Ends]
 | i+1=>by
  by_cases h:i<L.length
  ·rw [ends_succ h];have:=ends_len (L:=L) i;simp;omega
  ·have e:Ends L (i+1)=Ends L i:=by unfold Ends;rw [List.take_of_length_le (by omega),List.take_of_length_le (by omega)]
   rw [e];have:=ends_len (L:=L) i;omega
def E1 (m:Map) (L:List Key) (e:IK) (k:Key):Prop:=¬ (e.2=1∧ShareP (kx L e.1.1.toNat) (kx L e.1.2.toNat))∧∃ a∈owners m (kx L e.1.1.toNat),∃ b∈owners m (kx L e.1.2.toNat),k=key a b
theorem check_pairs {m:Map} (hf:m.Objects.length≤40) {s t:Key} {l10:List IK} {T:List (Key×Bool)} {P:Key→Prop} {c:Nat} (hT:Tm T P c) {A2:(List ((Int×Int)×Int))→(List ((ByteArray×ByteArray)×Bool))→W (List Violation)} {Q:List Violation→Prop} (hq:∀ T',Tm T' (fun k=>P k∨∃ a∈owners m s,∃ b∈owners m t,k=key a b) (c+1600)→A2 l10 T' Q):(W.ex fun n=>W.iter2 (Jq.l3 A2 l10 (ln (owners m) s) (ln (owners m) t)) n T (0:Int)) Q:=by
 have h1:(owners m s).length≤40:=Nat.le_trans own_len hf
 have h2:(owners m t).length≤40:=Nat.le_trans own_len hf
 refine W.up2 (owners m s).length (fun x T'=>Tm T' (fun k=>P k∨∃ a∈(owners m s).take x,∃ b∈owners m t,k=key a b) (c+40*x)) (hT.mono (by simp) (by omega)) (fun K x T' hx hI hK=>?_)
 refine W.dec_i (fun hlt=>W.req_i ⟨by omega,hlt⟩ ?_) (fun hge=>?_)
 ·have hx2:x<(owners m s).length:=by
   have:(x:Int)<((owners m s).length:Int):=hlt
   omega
  have ex:rd (⟨#[]⟩:ByteArray) (ln (owners m) s).owners (x:Int)=(owners m s)[x]:=rd_nat hx2
  refine W.up2 (owners m t).length (fun y T'=>Tm T' (fun k=>(P k∨∃ a∈(owners m s).take x,∃ b∈owners m t,k=key a b)∨∃ b∈(owners m t).take y,k=key (owners m s)[x] b) (c+40*x+y)) (hI.mono (by simp) (by omega)) (fun K2 y T2 hy hI2 hK2=>?_)
  refine W.dec_i (fun hlt2=>W.req_i ⟨by omega,hlt2⟩ (W.bind_i ?_)) (fun hge2=>?_)
  ·have hy2:y<(owners m t).length:=by
    have:(y:Int)<((owners m t).length:Int):=hlt2
    omega
   have ey:rd (⟨#[]⟩:ByteArray) (ln (owners m) t).owners (y:Int)=(owners m t)[y]:=rd_nat hy2
   rw [ex,ey]
   show K2 (mset (key _ _) true T2) _ Q
   rw [w64_succ (by omega)]
   refine hK2 hy2 _ (hI2.note (fun k=>?_) (by omega))
   rw [List.take_add_one,List.getElem?_eq_getElem hy2]
   simp only [Option.toList_some,List.mem_append,List.mem_singleton]
   constructor
   ·rintro (k1 | ⟨b,hb | hb,e⟩)
    ·exact .inl (.inl k1)
    ·exact .inl (.inr ⟨b,hb,e⟩)
    ·exact .inr (hb ▸ e)
   ·rintro ((k1 | ⟨b,hb,e⟩) | e)
    ·exact .inl k1
    ·exact .inr ⟨b,.inl hb,e⟩
    ·exact .inr ⟨_,.inr rfl,e⟩
  ·have hyl:y=(owners m t).length:=by
    have:¬ (y:Int)<((owners m t).length:Int):=hge2
    omega
   subst hyl
   rw [List.take_length] at hI2
   show K _ (w64 ((x:Int)+1)) Q
   rw [w64_succ (by omega)]
   refine hK hx2 _ (hI2.mono (fun k=>?_) (by omega))
   rw [List.take_add_one,List.getElem?_eq_getElem hx2]
   simp only [Option.toList_some,List.mem_append,List.mem_singleton]
   constructor
   ·rintro (k1 | ⟨a,ha | ha,h⟩)
    ·exact .inl (.inl k1)
    ·exact .inl (.inr ⟨a,ha,h⟩)
    ·exact .inr (ha ▸ h)
   ·rintro ((k1 | ⟨a,ha,h⟩) | h)
    ·exact .inl k1
    ·exact .inr ⟨a,.inl ha,h⟩
    ·exact .inr ⟨_,.inr rfl,h⟩
 ·have hxl:x=(owners m s).length:=by
   have:¬ (x:Int)<((owners m s).length:Int):=hge
   omega
  subst hxl
  rw [List.take_length] at hI
  exact hq T' (hI.mono (fun k=>Iff.rfl) (by omega))
theorem two_mem {a b c:ByteArray}:a∈([b,c]:List ByteArray)↔a=b∨a=c:=by simp
open Classical in
noncomputable def idk (k:Key):Ids:=if k.1=k.2 then [k.1] else [k.1,k.2]
theorem idk_inj {k k':Key} (h:idk k=idk k'):k=k':=by
 unfold idk at h
 by_cases c:k.1=k.2<;>by_cases c':k'.1=k'.2
 ·rw [if_pos c,if_pos c'] at h
  injection h with h
  exact Prod.ext h (c ▸ c' ▸ h)
 ·rw [if_pos c,if_neg c'] at h;simp at h
 ·rw [if_neg c,if_pos c'] at h;simp at h
 ·rw [if_neg c,if_neg c'] at h
  injection h with h h2
  injection h2 with h2
  exact Prod.ext h h2
theorem idk_key (a b:ByteArray):idk (key a b)=pr a b:=by
 unfold idk key pr
 rcases sLt_tri a b with h | h | h
 ·have:=sMin_lt h
  rw [this.1,this.2.1,if_neg (sLt_ne h)]
 ·subst h
  have h1:sMin a a=a:=(sMin_or a a).elim id id
  have h2:sMax a a=a:=(sMax_or a a).elim id id
  rw [h1,h2,if_pos rfl]
 ·have:=sMin_lt h
  rw [this.2.2.1,this.2.2.2,if_neg (sLt_ne h),if_neg (fun e=>sLt_ne h e.symm)]
theorem compact_b {k:Key} {Q:Ids→Prop} (hq:Q (idk k)):vt.F ([k.1,k.2]:List ByteArray) Q:=by
 unfold idk at hq
 refine W.dec_i (fun h=>by simp at h) (fun _=>⟨2,?_⟩)
 change vt.l1 ([k.1,k.2]:List ByteArray) _ (W.iter1 (vt.l1 ([k.1,k.2]:List ByteArray) (vt.c1 ([k.1,k.2]:List ByteArray))) 1) 1 _
 have e0:w64 ((1:Int)-1)=0:=by decide
 have r1:rd (⟨#[]⟩:ByteArray) ([k.1,k.2]:List ByteArray) 1=k.2:=rfl
 have r0:rd (⟨#[]⟩:ByteArray) ([k.1,k.2]:List ByteArray) 0=k.1:=rfl
 refine W.dec_i (fun _=>W.req_i ⟨by decide,by simp⟩ (W.req_i ⟨by decide,by rw [e0];simp⟩ (W.ite_i (fun h=>?_) (fun h=>?_)))) (fun k=>by simp at k)
 ·rw [e0,r1,r0,sEq_eq] at h
  rw [if_pos h.symm] at hq
  refine W.req_i ⟨by decide,by simp⟩ ⟨1,?_⟩
  change vt.l2 ([k.1,k.2]:List ByteArray) 1 _ _ ([k.1,k.2]:List ByteArray) 1 1 _
  refine W.dec_i (fun k=>by simp at k) (fun _=>?_)
  refine W.req_i ⟨by decide,by simp⟩ (W.req_i (Nat.le_refl _) (W.req_i ⟨by decide,by simp⟩ (W.req_i (by simp) ?_)))
  exact hq
 ·rw [e0,r1,r0,sEq_false] at h
  rw [if_neg (fun e=>h e.symm)] at hq
  change vt.l1 ([k.1,k.2]:List ByteArray) _ (W.iter1 (vt.l1 ([k.1,k.2]:List ByteArray) (vt.c1 ([k.1,k.2]:List ByteArray))) 0) (w64 (1+1)) _
  refine W.dec_i (fun k=>by simp [w64_id] at k) (fun _=>hq)
open Classical in
noncomputable def cfV (a b:Violation):Int:=if lLt a.Ids b.Ids then -1 else if lLt b.Ids a.Ids then 1 else 0
theorem cfV_neg {a b:Violation}:cfV a b<0↔lLt a.Ids b.Ids:=by
 unfold cfV
 split
 ·rename_i h;exact ⟨fun _=>h,fun _=>by decide⟩
 ·rename_i h;split<;>exact ⟨fun k=>by omega,fun k=>absurd k h⟩
theorem cfV_ok (xs:List Violation):SWOn cfV xs:={
 irrefl:=fun x _=>by rw [cfV_neg];exact lLt_irr _
 trans:=fun x y z _ _ _=>by rw [cfV_neg,cfV_neg,cfV_neg];exact lLt_trans _ _ _
 ntrans:=fun x y z _ _ _=>by
  rw [cfV_neg,cfV_neg,cfV_neg]
  intro h1 h2 h3
  rcases lLt_tri x.Ids y.Ids with k | k | k
  ·exact h1 k
  ·rw [k] at h3;exact h2 h3
  ·exact h2 (lLt_trans _ _ _ k h3) }
theorem cmpV_b {a b:Violation} (ha:a.Ids.length≤1000) (hb:b.Ids.length≤1000) {Q:Int→Prop} (hq:Q (cfV a b)):yk.F a b Q:=by
 refine W.bind_i ?_
 have q1:lLt a.Ids b.Ids→Q (-1):=fun h=>by unfold cfV at hq;rwa [if_pos h] at hq
 have q2:lLt b.Ids a.Ids→Q 1:=fun h=>by unfold cfV at hq;rwa [if_neg (fun k=>lLt_irr _ (lLt_trans _ _ _ h k)),if_pos h] at hq
 have q0:a.Ids=b.Ids→Q 0:=fun h=>by unfold cfV at hq;rwa [h,if_neg (lLt_irr _),if_neg (lLt_irr _)] at hq
 clear hq
 generalize a.Ids=u at *
 generalize b.Ids=v at *
 refine W.up1 u.length (fun i=>∃ P A B,u=P++A∧v=P++B∧P.length=i) ⟨[],u,v,rfl,rfl,rfl⟩ (fun K i hi hI hK=>?_)
 obtain ⟨P,A,B,rfl,rfl,rfl⟩:=hI
 rw [lLt_pre] at q1 q2
 have ea:(((P++A).length:Nat):Int)=P.length+A.length:=by simp
 have eb:(((P++B).length:Nat):Int)=P.length+B.length:=by simp
 have r0:∀ (x:ByteArray) (l:Ids),rd (⟨#[]⟩:ByteArray) (P++x::l) (P.length:Int)=x:=fun x l=>rd_mid rfl
 refine W.dec_i (fun h=>?_) (fun h=>?_)
 ·refine W.req_i ⟨by omega,h⟩ (W.dec_i (fun h2=>?_) (fun h2=>?_))
  ·match A,B,h,q2 with
   | [],_,h,_=>simp at h
   | x::A,[],h,q2=>exact q2 trivial
   | x::A,y::B,h,_=>simp at h2;omega
  ·match A,B,h,h2,q1,q2,ha,hb,hi,hK with
   | [],_,h,_,_,_,_,_,_,_=>simp at h
   | _::_,[],_,h2,_,_,_,_,_,_=>simp at h2
   | x::A,y::B,h,h2,q1,q2,ha,hb,hi,hK=>
    refine W.req_i ⟨by omega,by omega⟩ (W.bind_i (cmps_b ?_))
    rw [r0,r0]
    unfold cmpS
    rcases sLt_tri x y with c | c | c
    ·rw [if_pos c]
     exact q1 (.inl c)
    ·subst c
     rw [sLt_irr]
     refine W.ite_i (fun k=>by simp at k) (fun _=>?_)
     rw [w64_succ (by simp at ha;omega)]
     exact hK (by simp) ⟨P++[x],A,B,by simp,by simp,by simp⟩
    ·rw [sLt_asymm c,if_neg (by simp),if_pos c]
     exact q2 (.inl c)
 ·match A,B,h,q0,q1 with
  | x::A,_,h,_,_=>simp at h;omega
  | [],[],_,q0,_=>exact W.dec_i (fun k=>by simp at k) (fun _=>q0 rfl)
  | [],y::B,_,_,q1=>exact W.dec_i (fun _=>q1 trivial) (fun k=>by simp at k;omega)
theorem check_out {T:List (Key×Bool)} {P:Key→Prop} (hT:Tm T P 1400000000000) {Q:List Violation→Prop} (hq:∀ W:List Ids,W.Pairwise lLt→(∀ ids,ids∈W↔∃ k,P k∧ids=idk k)→W.length≤1400000000000→Q (W.map viol)):Jq.c3 T Q:=by
 have hTl:=hT.len
 refine W.loop2 (fun (a:List Violation) (r:List (Key×Bool))=>(a++r.map fun e=>viol (idk e.1)).Perm (T.map fun e=>viol (idk e.1))) (fun a r=>r.length) (fun K a r hP hK=>?_) (by simp)
 have hal:a.length+r.length=T.length:=by
  have:=hP.length_eq
  simpa using this
 refine ⟨fun hr=>?_,fun A e B hr=>?_⟩
 ·subst hr
  rw [List.map_nil,List.append_nil] at hP
  have hmem:∀ v,v∈a↔∃ k,P k∧v=viol (idk k):=fun v=>by
   rw [hP.mem_iff,List.mem_map]
   constructor
   ·rintro ⟨e,he,rfl⟩;exact ⟨e.1,(hT.mem _).1 (List.mem_map_of_mem he),rfl⟩
   ·rintro ⟨k,hk,rfl⟩
    obtain ⟨e,he,rfl⟩:=List.mem_map.1 ((hT.mem k).2 hk)
    exact ⟨e,he,rfl⟩
  have two:∀ k,(idk k).length≤2:=fun k=>by unfold idk;split<;>simp
  have hnd:(a.map (·.Ids)).Nodup:=by
   have h1:(a.map (·.Ids)).Perm ((T.map fun e=>viol (idk e.1)).map (·.Ids)):=hP.map _
   rw [h1.nodup_iff,List.map_map]
   have h2:=hT.nodup
   unfold List.Nodup at h2 ⊢
   rw [List.pairwise_map] at h2 ⊢
   exact h2.imp fun {x y} h e=>h (idk_inj e)
  refine W.bind_i ⟨by omega,cfV,cfV_ok a,fun u v hu hv=>?_,fun ys hys hp=>?_⟩
  ·obtain ⟨k,_,rfl⟩:=(hmem u).1 hu
   obtain ⟨k',_,rfl⟩:=(hmem v).1 hv
   have h1:=two k
   have h2:=two k'
   exact cmpV_b (by show (idk k).length≤1000;omega) (by show (idk k').length≤1000;omega) rfl
  ·have hyn:(ys.map (·.Ids)).Nodup:=((hys.map _).nodup_iff).2 hnd
   have hrise:(ys.map (·.Ids)).Pairwise lLt:=by
    rw [List.pairwise_map]
    have h1:ys.Pairwise (fun x y=>x.Ids≠y.Ids):=by
     have:=hyn
     unfold List.Nodup at this
     rwa [List.pairwise_map] at this
    refine (hp.and h1).imp fun {u v} hh=>?_
    rw [cfV_neg] at hh
    rcases lLt_tri u.Ids v.Ids with k | k | k
    ·exact k
    ·exact absurd k hh.2
    ·exact absurd k hh.1
   have:=hq (ys.map (·.Ids)) hrise (fun ids=>?_) (by rw [List.length_map,hys.length_eq];simp at hal;omega)
   ·have e:(ys.map (·.Ids)).map viol=ys:=by
     rw [List.map_map]
     refine (List.map_congr_left (g:=id) fun b hb=>?_).trans (List.map_id _)
     obtain ⟨k,_,rfl⟩:=(hmem b).1 (hys.mem_iff.1 hb)
     rfl
    rw [e] at this
    exact this
   ·rw [List.mem_map]
    constructor
    ·rintro ⟨b,hb,rfl⟩
     obtain ⟨k,hk,rfl⟩:=(hmem b).1 (hys.mem_iff.1 hb)
     exact ⟨k,hk,rfl⟩
    ·rintro ⟨k,hk,rfl⟩
     exact ⟨viol (idk k),hys.mem_iff.2 ((hmem _).2 ⟨k,hk,rfl⟩),rfl⟩
 ·subst hr
  refine W.req_i rfl (W.bind_i (compact_b (W.req_i ?_ ?_)))
  ·simp at hal ⊢;omega
  ·refine hK _ _ ?_ (by simp)
   refine List.Perm.trans ?_ hP
   rw [List.append_assoc]
   refine List.Perm.append_left a ?_
   rw [List.map_append,List.map_append,List.map_cons]
   show (viol (idk e.1)::((A.map fun e=>viol (idk e.1))++(B.map fun e=>viol (idk e.1)))).Perm _
   exact List.perm_middle.symm
def Pk (m:Map) (L:List Key) (x:List IK) (k:Key):Prop:=K2 m (Ends L L.length) k∨∃ e∈x,E1 m L e k
theorem mem_ends {L:List Key} {a:ByteArray}:a∈Ends L L.length↔∃ s∈L,a=s.1∨a=s.2:=by
 unfold Ends
 rw [List.take_length,List.mem_flatMap]
 simp
theorem sx_map {m:Map} {L:List Key} {i:Nat} (hi:i<L.length):sx (L.map (sg m)) i=sg m (kx L i):=rd_mapk hi
theorem pk_iff {m:Map} {L:List Key} (hL:Ks (owners m) L) {x:List IK} (hx:Pairs (L.map (sg m)) x) {ids:Ids}:(∃ k,Pk m L x k∧ids=idk k)↔BadI m ids:=by
 rw [bad_iff hL]
 constructor
 ·rintro ⟨k,⟨a,ha,b,hb,hne,hp,rfl⟩ | ⟨e,he,hE⟩,rfl⟩
  ·rw [idk_key]
   obtain ⟨s,hs,ha⟩:=mem_ends.1 ha
   obtain ⟨t,ht,hb⟩:=mem_ends.1 hb
   rw [← bad_iff hL]
   exact ⟨s,t,(hL.mem s).1 hs,(hL.mem t).1 ht,.inr ⟨a,ha,b,hb,hne,hp,rfl⟩⟩
  ·obtain ⟨i,j,hij,hj,e1,hm,hk0⟩:=hx.each e he
   rw [List.length_map] at hj
   rw [sx_map (by omega),sx_map hj] at hm
   unfold E1 at hE
   rw [e1] at hE
   simp only [Int.toNat_natCast] at hE
   obtain ⟨hn,a,ha,b,hb,rfl⟩:=hE
   rw [idk_key]
   refine ⟨j,hj,.inl ⟨i,hij,⟨_,hm.symm,fun k=>?_⟩,b,hb,a,ha,pr_comm a b⟩⟩
   rcases k with k | k
   ·exact hk0 k
   ·exact hn ⟨k.1,k.2.symm⟩
 ·rintro ⟨i,hi,⟨k,hk,h⟩ | ⟨k,hk,h⟩⟩
  ·obtain ⟨⟨n,hn,ho⟩,a,ha,b,hb,rfl⟩:=h
   have hn0:n≠0:=fun k=>ho (.inl k)
   have hn':MeetsR (sx (L.map (sg m)) k) (sx (L.map (sg m)) i) n:=by rw [sx_map (by omega),sx_map hi];exact hn.symm
   obtain ⟨e,he,e1⟩:=hx.all k i n hk (by rw [List.length_map];exact hi) hn' hn0
   refine ⟨key b a,.inr ⟨e,he,?_⟩,by rw [idk_key,pr_comm]⟩
   unfold E1
   rw [e1]
   simp only [Int.toNat_natCast]
   refine ⟨fun hs=>ho (.inr ⟨?_,hs.2.symm⟩),b,hb,a,ha,rfl⟩
   obtain ⟨i',j',hij,hj,e1',hm,hk0⟩:=hx.each e he
   rw [e1] at e1'
   injection e1' with u v
   have:i'=k:=by omega
   have:j'=i:=by omega
   subst i' j'
   exact (hn'.unique hm).trans hs.1
  ·obtain ⟨a,ha,b,hb,hne,hp,rfl⟩:=h
   exact ⟨key a b,.inl ⟨a,mem_ends.2 ⟨_,kx_mem hi,ha⟩,b,mem_ends.2 ⟨_,kx_mem (by omega),hb⟩,hne,hp,rfl⟩,(idk_key a b).symm⟩
theorem border_Check_b40 {m:Map} (hf:MapFit m) (hfew:FewP m 40) {Q:List Violation→Prop} (hn:¬ MapOk m→Q []) (hq:MapOk m→∀ W:List Ids,W.Pairwise lLt→(∀ ids,ids∈W↔BadI m ids)→W.length≤1400000000000→Q (W.map viol)):Jq.F m Q:=by
 refine W.bind_i (border_of_b hf (fun hno=>W.ite_i (fun _=>hn hno) (fun k=>by simp at k)) (fun h x0 hx0=>W.ite_i (fun k=>by simp at k) (fun _=>?_)))
 have hlen:m.Objects.length≤40:=by have:=hfew.few;omega
 refine W.bind_i (lines_b h hx0 fun L hL hll=>?_)
 have hl:=few_lines40 hfew hL
 have hnds:∀ i,i<L.length→Nd m (kx L i).1∧Nd m (kx L i).2:=fun i hi=>ks_nodes hL (kx_mem hi)
 refine W.up3 L.length (fun i x t=>AtM m (Ends L i) x∧Tm t (K2 m (Ends L i)) (4000*i)) ⟨⟨fun p id=>by simp [mget,Ends],fun p=>by simp [mget]⟩,⟨fun k=>by simp [K2,Ends],by simp,by simp⟩⟩ (fun K i x t hi hI hK=>?_)
 obtain ⟨hA,hT⟩:=hI
 refine W.dec_i (fun hlt=>W.req_i ⟨by omega,hlt⟩ (W.req_i ⟨by omega,hlt⟩ ?_)) (fun hge=>?_)
 ·rw [List.length_map] at hlt
  have hi':i<L.length:=by omega
  have hel:=ends_len (L:=L) i
  refine W.up3 2 (fun j x t=>AtM m (Ends L i++[(kx L i).1,(kx L i).2].take j) x∧Tm t (K2 m (Ends L i++[(kx L i).1,(kx L i).2].take j)) (4000*i+1000*j)) ⟨by simpa using hA,by simpa using hT⟩ (fun K2' j x t hj hI hK2=>?_)
  obtain ⟨hA,hT⟩:=hI
  by_cases hj2:j<2
  ·have hnd:Nd m (([(kx L i).1,(kx L i).2]:List ByteArray).getD j ⟨#[]⟩)∧wt (kx L i) (j:Int)=([(kx L i).1,(kx L i).2]:List ByteArray).getD j ⟨#[]⟩∧([(kx L i).1,(kx L i).2]:List ByteArray).take (j+1)=([(kx L i).1,(kx L i).2]:List ByteArray).take j++[([(kx L i).1,(kx L i).2]:List ByteArray).getD j ⟨#[]⟩]:=by
    rcases (show j=0∨j=1 by omega) with rfl | rfl
    ·exact ⟨(hnds i hi').1,rfl,rfl⟩
    ·exact ⟨(hnds i hi').2,rfl,rfl⟩
   have hSl:(Ends L i++[(kx L i).1,(kx L i).2].take j).length≤1000:=by
    rw [List.length_append,List.length_take];simp;omega
   refine check_step h hx0 (by omega) hnd.1 hA hT hi' hj2 hnd.2.1 fun x' t' hA' hT'=>?_
   refine hK2 hj2 _ _ ⟨?_,?_⟩
   ·rw [hnd.2.2,← List.append_assoc];exact hA'
   ·rw [hnd.2.2,← List.append_assoc];exact hT'.mono (fun k=>Iff.rfl) (by omega)
  ·have:j=2:=by omega
   subst this
   refine W.dec_i (fun k=>by omega) (fun _=>?_)
   show K x t (w64 ((i:Int)+1)) Q
   rw [w64_succ (by omega)]
   refine hK hi' _ _ ⟨?_,?_⟩
   ·rw [ends_succ hi'];exact hA
   ·rw [ends_succ hi'];exact hT.mono (fun k=>Iff.rfl) (by omega)
 ·rw [List.length_map] at hge
  have:i=L.length:=by omega
  subst this
  refine W.up2 L.length (fun i x=>x=(List.range i).map fun (i:Nat)=>(i:Int)) rfl (fun K2' i x hi hI hK2=>?_)
  subst hI
  refine W.dec_i (fun hlt=>?_) (fun hge2=>?_)
  ·rw [List.length_map] at hlt
   refine W.req_i (by simp;omega) ?_
   rw [w64_succ (by omega)]
   refine hK2 (by omega) _ ?_
   rw [List.range_succ,List.map_append];rfl
  ·rw [List.length_map] at hge2
   have:i=L.length:=by omega
   subst this
   refine W.bind_i (segments_b h hx0 hL hll (W.bind_i ?_))
   have hml:(L.map (sg m)).length=L.length:=by simp
   rw [show (List.range L.length).map (fun (i:Nat)=>(i:Int))=(List.range (L.map (sg m)).length).map (fun (i:Nat)=>(i:Int)) by rw [hml]]
   refine meets_m_b (by rw [hml];omega) fun R hR=>?_
   have hRl:=hR.len
   refine W.loop2 (fun (r:List IK) (t:List (Key×Bool))=>∃ D,(D++r).Perm R∧Tm t (fun k=>K2 m (Ends L L.length) k∨∃ e∈D,E1 m L e k) (4000*L.length+1600*D.length)) (fun r t=>r.length) (fun K3 r t hP hK3=>?_) ⟨[],by simp,hT.mono (by simp) (by simp)⟩
   obtain ⟨D,hP,hT3⟩:=hP
   have hDl:D.length+r.length=R.length:=by
    have:=hP.length_eq
    simpa using this
   refine ⟨fun hr=>?_,fun A e B hr=>?_⟩
   ·subst hr
    rw [List.append_nil] at hP
    show Jq.c3 t Q
    refine check_out (P:=Pk m L R) (hT3.mono (fun k=>?_) (by omega)) fun W h1 h2 h3=>hq h W h1 (fun ids=>by rw [h2,pk_iff hL hR]) h3
    unfold Pk
    simp only [hP.mem_iff]
   ·subst hr
    have heR:e∈R:=hP.mem_iff.1 (by simp)
    obtain ⟨i,j,hij,hj,e1,hm,hk0⟩:=hR.each e heR
    rw [hml] at hj
    have hperm:((D++[e])++(A++B)).Perm R:=by
     refine List.Perm.trans ?_ hP
     rw [List.append_assoc]
     refine List.Perm.append_left D ?_
     show (e::(A++B)).Perm _
     exact List.perm_middle.symm
    have hlim:∀ a:Nat,a<L.length→0≤(a:Int)∧(a:Int)<((L.map (ln (owners m))).length:Int):=fun a ha=>⟨by omega,by rw [List.length_map];omega⟩
    refine W.req_i rfl (W.req_i (by rw [e1];exact hlim i (by omega)) (W.req_i (by rw [e1];exact hlim j hj) ?_))
    have r1:rd Vd (L.map (ln (owners m))) e.1.1=ln (owners m) (kx L i):=by rw [e1];exact rd_mapk (by omega)
    have r2:rd Vd (L.map (ln (owners m))) e.1.2=ln (owners m) (kx L j):=by rw [e1];exact rd_mapk hj
    rw [r1,r2]
    have hE:∀ k,E1 m L e k↔¬ (e.2=1∧ShareP (kx L i) (kx L j))∧∃ a∈owners m (kx L i),∃ b∈owners m (kx L j),k=key a b:=fun k=>by
     unfold E1;rw [e1];simp only [Int.toNat_natCast]
    have hne:kx L i≠kx L j:=by
     unfold kx
     rw [rd_nat hj,rd_nat (show i<L.length by omega)]
     exact (List.pairwise_iff_getElem.1 hL.rise i j (by omega) hj hij).ne
    have go:∀ T',Tm T' (fun k=>K2 m (Ends L L.length) k∨∃ e'∈D++[e],E1 m L e' k) (4000*L.length+1600*(D++[e]).length)→K3 (A++B) T' Q:=fun T' hT'=>hK3 _ _ ⟨D++[e],hperm,hT'⟩ (by simp)
    unfold Jq.c5
    refine W.bind_i (contains_b (by simp) fun b1 h1=>W.bind_i ?_)
    rw [two_mem] at h1
    have last:∀ b2:Bool,(b1=false→(b2=true↔(kx L i).2=(kx L j).1∨(kx L i).2=(kx L j).2))→(fun r52=>W.ite ((eq_a50 (ln (owners m) (kx L i)).nodes (ln (owners m) (kx L j)).nodes)||((e.2==(1:Int))&&(b1||r52))) (K3 (A++B) t) (W.ex fun n=>W.iter2 (Jq.l3 K3 (A++B) (ln (owners m) (kx L i)) (ln (owners m) (kx L j))) n t (0:Int)) Q) b2:=fun b2 h2=>by
     have hsh:(b1||b2)=true↔ShareP (kx L i) (kx L j):=by
      rw [Bool.or_eq_true]
      change b1=true↔(kx L i).1=(kx L j).1∨(kx L i).1=(kx L j).2 at h1
      unfold ShareP
      cases b1 with
      | true=>simp at h1 ⊢;rcases h1 with h1 | h1<;>simp [h1]
      | false=>
       have h2:=h2 rfl
       simp at h1
       rw [h2]
       simp [h1]
     have heq:eq_a50 (ln (owners m) (kx L i)).nodes (ln (owners m) (kx L j)).nodes=false:=by
      rw [← Bool.not_eq_true]
      intro k
      unfold eq_a50 at k
      rw [Bool.and_eq_true,sEq_eq,sEq_eq] at k
      exact hne (Prod.ext k.1 k.2)
     dsimp only
     rw [heq,Bool.false_or]
     refine W.ite_i (fun k=>?_) (fun k=>?_)
     ·rw [Bool.and_eq_true,beq_iff_eq,hsh] at k
      refine go t (hT3.mono (fun key=>?_) (by simp;omega))
      constructor
      ·rintro (q | ⟨e',he',q⟩)
       ·exact .inl q
       ·rcases List.mem_append.1 he' with he' | he'
        ·exact .inr ⟨e',he',q⟩
        ·rw [List.mem_singleton] at he'
         subst he'
         exact absurd k ((hE key).1 q).1
      ·rintro (q | ⟨e',he',q⟩)
       ·exact .inl q
       ·exact .inr ⟨e',List.mem_append_left _ he',q⟩
     ·rw [← Bool.not_eq_true,Bool.and_eq_true,beq_iff_eq,hsh] at k
      refine check_pairs hlen hT3 fun T' hT'=>go T' (hT'.mono (fun key=>?_) (by simp;omega))
      constructor
      ·rintro (q | ⟨e',he',q⟩)
       ·exact .inl (.inl q)
       ·rcases List.mem_append.1 he' with he' | he'
        ·exact .inl (.inr ⟨e',he',q⟩)
        ·rw [List.mem_singleton] at he'
         subst he'
         exact .inr ((hE key).1 q).2
      ·rintro ((q | ⟨e',he',q⟩) | q)
       ·exact .inl q
       ·exact .inr ⟨e',List.mem_append_left _ he',q⟩
       ·exact .inr ⟨e,List.mem_append_right _ (List.mem_singleton.2 rfl),(hE key).2 ⟨k,q⟩⟩
    cases hb1:b1 with
    | true=>
     have:=last false (fun k=>by rw [hb1] at k;cases k)
     rw [hb1] at this
     exact this
    | false=>
     refine contains_b (by simp) fun b2 h2=>?_
     rw [two_mem] at h2
     have:=last b2 (fun _=>h2)
     rw [hb1] at this
     exact this
theorem border_Check_b {m:Map} (hf:MapFit m) (hfew:FewP m 24) {Q:List Violation→Prop} (hn:¬ MapOk m→Q []) (hq:MapOk m→∀ W:List Ids,W.Pairwise lLt→(∀ ids,ids∈W↔BadI m ids)→W.length≤1400000000000→Q (W.map viol)):Jq.F m Q:=border_Check_b40 hf ⟨Int.le_trans hfew.few (by decide),hfew.refs⟩ hn hq
theorem fit_ok {m:Map} (h:MapOk m):MapFit m:=by
 have hm:=maxLen_val
 refine ⟨by have:=h.few;omega,fun i hi=>?_⟩
 have o:=h.each i hi
 have nl:∀ s,NameOk s→s.size≤maxLen:=fun s hs=>by have:=hs.2.1;omega
 exact ⟨nl _ o.name,by have:=o.count.1;omega,fun j hj=>nl _ (o.refs.name j hj),by have:=o.tags.few;omega,fun j hj=>nl _ (o.tags.each j hj).1⟩
def nm (n:UInt8):ByteArray:=⟨#[n]⟩
theorem nm_lt {x y:UInt8}:sLt (nm x) (nm y)=decide (x<y):=by
 unfold sLt nm;rw [size_toList,size_toList]
 simp [Op.bytesLess]
theorem nm_inj {x y:UInt8}:nm x=nm y↔x=y:=by
 unfold nm
 constructor
 ·intro h;injection h with h;injection h with h;injection h
 ·rintro rfl;rfl
theorem nm_ok {x:UInt8} (h:isLetter x.toNat=true):NameOk (nm x):=by
 refine ⟨Nat.one_pos,(by decide:1≤24),?_,fun i hi=>?_⟩
 ·show isLetter (byteAt (nm x) 0)=true
  exact h
 ·have:i=0:=by simp [nm,ByteArray.size] at hi;omega
  subst this
  show isWord (x.toNat:Int)=true
  unfold isWord;rw [h];rfl
def nd (c:UInt8) (x y:Int):Object:=⟨nm c,1,⟨x,y⟩,[],[]⟩
def wy (c:UInt8) (l:List UInt8):Object:=⟨nm c,2,zPoint,l.map nm,[]⟩
def sq (w:List Object):Map:=⟨[nd 97 0 0,nd 98 4 4,nd 99 0 4,nd 100 4 0]++w⟩
theorem no_tags:TagsOk []:=⟨by decide,fun i h=>by simp at h,fun i h=>by simp at h⟩
theorem nd_ok {c:UInt8} {x y:Int} (hc:isLetter c.toNat=true) (hx:0≤x∧x<1048576) (hy:0≤y∧y<1048576):ObjOk (nd c x y):={
 kind:=(by decide:(1:Int)≤1∧(1:Int)≤5)
 name:=nm_ok hc
 tags:=no_tags
 refs:=⟨fun i h=>by simp [nd] at h,fun k=>by simp [nd] at k,fun k=>by simp [nd] at k⟩
 count:=(by decide:0≤2000∧((1:Int)=1→0=0)∧((1:Int)=2→2≤0)∧((1:Int)=3→3≤0)∧((1:Int)=4→1≤0)∧((1:Int)=5→0=3))
 at_:=⟨fun _=>⟨hx.1,hx.2,hy.1,hy.2⟩,fun k=>absurd rfl k⟩ }
theorem wy_ok {c:UInt8} {l:List UInt8} (hc:isLetter c.toNat=true) (hl:∀ x∈l,isLetter x.toNat=true) (h2:2≤l.length) (h20:l.length≤2000) (hne:∀ (i:Nat) (h:i+1<l.length),l[i]≠l[i+1]):ObjOk (wy c l):=by
 have r:∀ (i:Nat) (h:i<l.length),rs (wy c l).Refs i=nm l[i]:=fun i h=>rd_map h
 have el:(wy c l).Refs.length=l.length:=by simp [wy]
 refine ⟨(by decide:(1:Int)≤2∧(2:Int)≤5),nm_ok hc,no_tags,⟨fun i h=>?_,fun _ i h=>?_,fun k=>by simp [wy] at k⟩,?_,⟨fun k=>by simp [wy] at k,fun _=>⟨rfl,rfl⟩⟩⟩
 ·rw [el] at h
  rw [r i h];exact nm_ok (hl _ (List.getElem_mem h))
 ·rw [el] at h
  rw [r i (by omega),r (i+1) h,Ne,nm_inj];exact hne i h
 ·rw [el]
  show l.length≤2000∧((2:Int)=1→_)∧((2:Int)=2→_)∧((2:Int)=3→_)∧((2:Int)=4→_)∧((2:Int)=5→_)
  exact ⟨h20,fun k=>by omega,fun _=>h2,fun k=>by omega,fun k=>by omega,fun k=>by omega⟩
theorem four (i:Nat) (h:i<4):i=0∨i=1∨i=2∨i=3:=by omega
theorem node_ok {w:List Object} {i:Nat} (h:i<4):ObjOk (ob (sq w) i):=by
 rcases four i h with rfl | rfl | rfl | rfl
 ·exact nd_ok (c:=97) (by decide) (by decide) (by decide)
 ·exact nd_ok (c:=98) (by decide) (by decide) (by decide)
 ·exact nd_ok (c:=99) (by decide) (by decide) (by decide)
 ·exact nd_ok (c:=100) (by decide) (by decide) (by decide)
theorem node_lt {w:List Object} {i:Nat} (h:i<3):sLt (ob (sq w) i).Id (ob (sq w) (i+1)).Id=true:=by
 rcases (show i=0∨i=1∨i=2 by omega) with rfl | rfl | rfl
 ·exact (nm_lt (x:=97) (y:=98)).trans (by decide)
 ·exact (nm_lt (x:=98) (y:=99)).trans (by decide)
 ·exact (nm_lt (x:=99) (y:=100)).trans (by decide)
theorem sq1_ok {l:List UInt8} (h:ObjOk (wy 118 l)):MapOk (sq [wy 118 l]):=by
 have hl:(sq [wy 118 l]).Objects.length=5:=rfl
 refine ⟨by rw [hl];decide,fun i hi=>?_,fun i hi=>?_⟩
 ·rw [hl] at hi
  by_cases c:i<4
  ·exact node_ok c
  ·have:i=4:=by omega
   subst this;exact h
 ·rw [hl] at hi
  by_cases c:i<3
  ·exact node_lt c
  ·have:i=3:=by omega
   subst this;exact (nm_lt (x:=100) (y:=118)).trans (by decide)
theorem sq2_ok {l l':List UInt8} (h:ObjOk (wy 118 l)) (h':ObjOk (wy 119 l')):MapOk (sq [wy 118 l,wy 119 l']):=by
 have hl:(sq [wy 118 l,wy 119 l']).Objects.length=6:=rfl
 refine ⟨by rw [hl];decide,fun i hi=>?_,fun i hi=>?_⟩
 ·rw [hl] at hi
  by_cases c:i<4
  ·exact node_ok c
  ·rcases (show i=4∨i=5 by omega) with rfl | rfl
   ·exact h
   ·exact h'
 ·rw [hl] at hi
  by_cases c:i<3
  ·exact node_lt c
  ·rcases (show i=3∨i=4 by omega) with rfl | rfl
   ·exact (nm_lt (x:=100) (y:=118)).trans (by decide)
   ·exact (nm_lt (x:=118) (y:=119)).trans (by decide)
def Abcd (r:ByteArray):Prop:=r=nm 97∨r=nm 98∨r=nm 99∨r=nm 100
theorem sq_len {w:List Object}:(sq w).Objects.length=4+w.length:=by simp [sq];omega
theorem sq_nd {w:List Object} {r:ByteArray} (h:Abcd r):Nd (sq w) r:=by
 rcases h with rfl | rfl | rfl | rfl
 ·exact ⟨0,⟨by rw [sq_len];omega,rfl⟩,rfl⟩
 ·exact ⟨1,⟨by rw [sq_len];omega,rfl⟩,rfl⟩
 ·exact ⟨2,⟨by rw [sq_len];omega,rfl⟩,rfl⟩
 ·exact ⟨3,⟨by rw [sq_len];omega,rfl⟩,rfl⟩
theorem rd_app {α:Type} {z:α} (A B:List α) (i:Nat):rd z (A++B) ((A.length+i:Nat):Int)=rd z B (i:Int):=by
 unfold rd
 rw [show ((A.length+i:Nat):Int).toNat=A.length+i by omega,show ((i:Nat):Int).toNat=i by omega,List.getD_eq_getElem?_getD,List.getD_eq_getElem?_getD,List.getElem?_append_right (by omega)]
 simp
theorem ob_way {w:List Object} {i:Nat} (h:i<w.length):ob (sq w) (4+i)=w[i]:=(rd_app [nd 97 0 0,nd 98 4 4,nd 99 0 4,nd 100 4 0] w i).trans (rd_nat h)
theorem sides_node {w:List Object} {i:Nat} (h:i<4):sides (ob (sq w) i)=[]:=by
 rcases four i h with rfl | rfl | rfl | rfl<;>rfl
def Way (o:Object):Prop:=o.Kind=2∧∀ r∈o.Refs,Abcd r
theorem sq_own {w:List Object} (hw:∀ o∈w,Way o) {s:Key} {id:ByteArray}:id∈owners (sq w) s↔∃ o∈w,o.Id=id∧s∈sides o:=by
 rw [own_mem]
 constructor
 ·rintro ⟨i,hi,e,hs,h⟩
  rw [sq_len] at hi
  by_cases c:i<4
  ·rw [sides_node c] at h;cases h
  ·obtain ⟨k,rfl⟩:=Nat.exists_eq_add_of_le (show 4≤i by omega)
   rw [ob_way (by omega)] at e h
   exact ⟨_,List.getElem_mem _,e.symm,h⟩
 ·rintro ⟨o,ho,e,h⟩
  obtain ⟨i,hi,rfl⟩:=List.mem_iff_getElem.1 ho
  refine ⟨4+i,by rw [sq_len];omega,?_,?_,?_⟩
  ·rw [ob_way hi];exact e.symm
  ·rw [ob_way hi]
   exact fun k hk=>sq_nd ((hw _ ho).2 _ (rs_mem hk))
  ·rw [ob_way hi];exact h
theorem wy_way {c:UInt8} {l:List UInt8} (h:∀ x∈l,x=97∨x=98∨x=99∨x=100):Way (wy c l):=⟨rfl,fun r hr=>by
 obtain ⟨x,hx,rfl⟩:=List.mem_map.1 hr
 unfold Abcd
 simp only [nm_inj]
 exact h x hx⟩
theorem key_nm {x y:UInt8} (h:x<y):key (nm x) (nm y)=(nm x,nm y)∧key (nm y) (nm x)=(nm x,nm y):=by
 have:=sMin_lt (a:=nm x) (b:=nm y) (by rw [nm_lt];simpa using h)
 unfold key
 rw [this.1,this.2.1,this.2.2.1,this.2.2.2]
 exact ⟨rfl,rfl⟩
theorem sides_ab {c x y:UInt8} (h:x<y):sides (wy c [x,y])=[(nm x,nm y)]∧sides (wy c [y,x])=[(nm x,nm y)]∧sides (wy c [x,y,x])=[(nm x,nm y),(nm x,nm y)]:=by
 refine ⟨?_,?_,?_⟩
 ·show [key (nm x) (nm y)]=_;rw [(key_nm h).1]
 ·show [key (nm y) (nm x)]=_;rw [(key_nm h).2]
 ·show [key (nm x) (nm y),key (nm y) (nm x)]=_;rw [(key_nm h).1,(key_nm h).2]
theorem sq_pos {w:List Object} (h:MapOk (sq w)):pos (sq w) (nm 97)=⟨0,0⟩∧pos (sq w) (nm 98)=⟨4,4⟩∧pos (sq w) (nm 99)=⟨0,4⟩∧pos (sq w) (nm 100)=⟨4,0⟩:=
 ⟨pos_eq h (j:=0) ⟨by rw [sq_len];omega,rfl⟩,pos_eq h (j:=1) ⟨by rw [sq_len];omega,rfl⟩,pos_eq h (j:=2) ⟨by rw [sq_len];omega,rfl⟩,pos_eq h (j:=3) ⟨by rw [sq_len];omega,rfl⟩⟩
theorem no_X2 {w:List Object} (h:MapOk (sq w)) {s t:Key} (hs:Abcd s.1∧Abcd s.2) (ht:Abcd t.1∧Abcd t.2) {ids:Ids}:¬ X2 (sq w) s t ids:=by
 rintro ⟨a,ha,b,hb,hne,hp,_⟩
 have ha:Abcd a:=ha.elim (fun e=>e ▸ hs.1) (fun e=>e ▸ hs.2)
 have hb:Abcd b:=hb.elim (fun e=>e ▸ ht.1) (fun e=>e ▸ ht.2)
 obtain ⟨p1,p2,p3,p4⟩:=sq_pos h
 rcases ha with rfl | rfl | rfl | rfl<;>rcases hb with rfl | rfl | rfl | rfl<;>first | exact hne rfl | (simp only [p1,p2,p3,p4] at hp;exact absurd hp (by decide))
instance (s:Segment) (p:Point):Decidable (On s p):=by unfold On Bx;infer_instance
instance (s:Segment) (p:Point):Decidable (IsEnd s p):=by unfold IsEnd;infer_instance
instance (s t:Segment):Decidable (SameEnds s t):=by unfold SameEnds;infer_instance
instance (s t:Segment):Decidable (Proper s t):=by unfold Proper;infer_instance
instance (p:Point):Decidable (Near p):=by unfold Near;infer_instance
instance (s:Segment):Decidable (NearS s):=by unfold NearS;infer_instance
theorem com_dec {s t:Segment} {P:Point→Prop} (h:∀ p∈[s.A,s.B,t.A,t.B],On s p→On t p→P p):∀ p,Com s t p→P p:=by
 rintro p ⟨(rfl | rfl) | (rfl | rfl),h1,h2⟩
 ·exact h _ (by simp) h1 h2
 ·exact h _ (by simp) h1 h2
 ·exact h _ (by simp) h1 h2
 ·exact h _ (by simp) h1 h2
theorem meet_cross:MeetsR ⟨⟨0,4⟩,⟨4,0⟩⟩ ⟨⟨0,0⟩,⟨4,4⟩⟩ 3:=.cross (by decide) (by decide) (com_dec (by decide)) (by decide)
theorem meet_corner:MeetsR ⟨⟨4,4⟩,⟨0,4⟩⟩ ⟨⟨0,0⟩,⟨4,4⟩⟩ 1:=.end_ (by decide) (by decide) ⟨4,4⟩ (by unfold Com;decide) (com_dec (by decide)) (by decide)
theorem meet_free:MeetsR ⟨⟨0,0⟩,⟨4,4⟩⟩ ⟨⟨4,4⟩,⟨9,0⟩⟩ 1:=.end_ (by decide) (by decide) ⟨4,4⟩ (by unfold Com;decide) (com_dec (by decide)) (by decide)
theorem meet_touch:MeetsR ⟨⟨0,0⟩,⟨4,4⟩⟩ ⟨⟨2,2⟩,⟨9,0⟩⟩ 2:=.touch (by decide) (by decide) ⟨2,2⟩ (by unfold Com;decide) (com_dec (by decide)) (by decide)
theorem ids_b {a b:Ids} (ha:a.length≤1000000) (hb:b.length≤1000000) {Q:Bool→Prop} (hq:∀ r,(r=true↔a=b)→Q r):zo.F a b Q:=by
 refine W.bind_i (before_b ha hb fun r1 h1=>W.bind_i ?_)
 cases r1 with
 | true=>exact hq _ (iff_of_false (by simp) fun e=>by subst e;exact lLt_irr _ (h1.1 rfl))
 | false=>
  refine before_b hb ha fun r2 h2=>hq _ ?_
  cases r2 with
  | true=>exact iff_of_false (by simp) fun e=>by subst e;exact lLt_irr _ (h2.1 rfl)
  | false=>
   refine iff_of_true (by simp) ?_
   rcases lLt_tri a b with k | k | k
   ·have:=h1.2 k;cases this
   ·exact k
   ·have:=h2.2 k;cases this
theorem border_Segments_b {m:Map} (hf:MapFit m) {Q:(List Segment)×(List Ids)→Prop} (hn:¬ MapOk m→Q ([],[])) (hq:MapOk m→∀ L,Ks (owners m) L→L.length≤2001*m.Objects.length→Q (L.map (sg m),L.map (owners m))):Vm.F m Q:=by
 refine W.bind_i (border_of_b hf (fun hno=>W.ite_i (fun _=>hn hno) (fun k=>by simp at k)) (fun h x0 hx0=>W.ite_i (fun k=>by simp at k) (fun _=>?_)))
 have hfew:=h.few
 refine W.bind_i (lines_b h hx0 fun L hL hll=>?_)
 refine W.up2 L.length (fun i x=>x=(L.take i).map (owners m)) rfl (fun K i x hi hI hK=>?_)
 subst hI
 refine W.dec_i (fun hlt=>W.req_i ⟨by omega,hlt⟩ (W.req_i ⟨by omega,hlt⟩ ?_)) (fun hge=>?_)
 ·rw [List.length_map] at hlt
  have hi':i<L.length:=by omega
  rw [rd_map hi']
  refine W.req_i (by simp;omega) ?_
  rw [w64_succ (by omega)]
  refine hK hi' _ ?_
  rw [List.take_add_one,List.getElem?_eq_getElem hi',List.map_append]
  rfl
 ·rw [List.length_map] at hge
  have:i=L.length:=by omega
  subst this
  rw [List.take_length]
  exact W.bind_i (segments_b h hx0 hL hll (hq h L hL hll))
theorem square_b {w:List Object} (hw:w.length≤10) {Q:Map→Prop} (hq:Q (sq w)):qi.F w Q:=
 W.bind_i (W.bind_i (W.bind_i (W.bind_i (W.req_i ⟨by simp;omega,by simp;omega⟩ hq))))
theorem sq_few {w:List Object} (hw:w.length≤10) (hr:∀ o∈w,o.Refs.length≤12):FewP (sq w) 24:=by
 refine ⟨by rw [sq_len];omega,fun i hi=>?_⟩
 rw [sq_len] at hi
 by_cases c:i<4
 ·rcases four i c with rfl | rfl | rfl | rfl<;>exact Nat.zero_le _
 ·obtain ⟨k,rfl⟩:=Nat.exists_eq_add_of_le (show 4≤i by omega)
  rw [ob_way (by omega)]
  exact hr _ (List.getElem_mem _)
theorem own_ne {w:List Object} (hw:∀ o∈w,Way o) {s:Key}:owners (sq w) s≠[]↔∃ o∈w,s∈sides o:=by
 constructor
 ·intro h
  obtain ⟨a,ha⟩:=List.exists_mem_of_ne_nil _ h
  obtain ⟨o,ho,_,hs⟩:=(sq_own hw).1 ha
  exact ⟨o,ho,hs⟩
 ·rintro ⟨o,ho,hs⟩
  exact List.ne_nil_of_mem ((sq_own hw).2 ⟨o,ho,rfl,hs⟩)
abbrev kab:Key:=(nm 97,nm 98)
abbrev kbc:Key:=(nm 98,nm 99)
abbrev kcd:Key:=(nm 99,nm 100)
abbrev w1:List Object:=[wy 118 [97,98],wy 119 [99,100]]
abbrev w2:List Object:=[wy 118 [97,98],wy 119 [98,99]]
abbrev w3:List Object:=[wy 118 [97,98,97],wy 119 [98,97]]
abbrev w4:List Object:=[wy 118 [97,98]]
theorem two_ne {x y:UInt8} (h:x≠y):∀ (i:Nat) (h:i+1<[x,y].length),[x,y][i]≠[x,y][i+1]:=fun i hi=>by
 have:i=0:=by simp at hi;omega
 subst this;exact h
theorem o1:MapOk (sq w1):=sq2_ok (wy_ok (by decide) (by decide) (by decide) (by decide) (two_ne (by decide))) (wy_ok (by decide) (by decide) (by decide) (by decide) (two_ne (by decide)))
theorem o2:MapOk (sq w2):=sq2_ok (wy_ok (by decide) (by decide) (by decide) (by decide) (two_ne (by decide))) (wy_ok (by decide) (by decide) (by decide) (by decide) (two_ne (by decide)))
theorem o3:MapOk (sq w3):=sq2_ok (wy_ok (by decide) (by decide) (by decide) (by decide) (fun i hi=>by
 have:i=0∨i=1:=by simp at hi;omega
 rcases this with rfl | rfl
 ·exact (by decide:(97:UInt8)≠98)
 ·exact (by decide:(98:UInt8)≠97))) (wy_ok (by decide) (by decide) (by decide) (by decide) (two_ne (by decide)))
theorem o4:MapOk (sq w4):=sq1_ok (wy_ok (by decide) (by decide) (by decide) (by decide) (two_ne (by decide)))
theorem y1:∀ o∈w1,Way o:=by
 intro o ho
 simp only [List.mem_cons,List.not_mem_nil,or_false] at ho
 rcases ho with rfl | rfl<;>exact wy_way (by decide)
theorem y2:∀ o∈w2,Way o:=by
 intro o ho
 simp only [List.mem_cons,List.not_mem_nil,or_false] at ho
 rcases ho with rfl | rfl<;>exact wy_way (by decide)
theorem y3:∀ o∈w3,Way o:=by
 intro o ho
 simp only [List.mem_cons,List.not_mem_nil,or_false] at ho
 rcases ho with rfl | rfl<;>exact wy_way (by decide)
theorem y4:∀ o∈w4,Way o:=by
 intro o ho
 simp only [List.mem_cons,List.not_mem_nil,or_false] at ho
 subst ho;exact wy_way (by decide)
theorem few_w {w:List Object} (h:w=w1∨w=w2∨w=w3∨w=w4):FewP (sq w) 24:=by
 refine sq_few ?_ ?_
 ·rcases h with rfl | rfl | rfl | rfl<;>decide
 ·intro o ho
  rcases h with rfl | rfl | rfl | rfl
  ·simp only [List.mem_cons,List.not_mem_nil,or_false] at ho
   rcases ho with rfl | rfl<;>decide
  ·simp only [List.mem_cons,List.not_mem_nil,or_false] at ho
   rcases ho with rfl | rfl<;>decide
  ·simp only [List.mem_cons,List.not_mem_nil,or_false] at ho
   rcases ho with rfl | rfl<;>decide
  ·simp only [List.mem_cons,List.not_mem_nil,or_false] at ho
   subst ho;decide
theorem s_ab {c:UInt8}:sides (wy c [97,98])=[kab]:=(sides_ab (c:=c) (x:=97) (y:=98) (by decide)).1
theorem s_bc {c:UInt8}:sides (wy c [98,99])=[kbc]:=(sides_ab (c:=c) (x:=98) (y:=99) (by decide)).1
theorem s_cd {c:UInt8}:sides (wy c [99,100])=[kcd]:=(sides_ab (c:=c) (x:=99) (y:=100) (by decide)).1
theorem s_ba {c:UInt8}:sides (wy c [98,97])=[kab]:=(sides_ab (c:=c) (x:=97) (y:=98) (by decide)).2.1
theorem s_aba {c:UInt8}:sides (wy c [97,98,97])=[kab,kab]:=(sides_ab (c:=c) (x:=97) (y:=98) (by decide)).2.2
theorem kne {x y z u:UInt8} (h:x≠z):((nm x,nm y):Key)≠(nm z,nm u):=fun e=>h (nm_inj.1 (congrArg Prod.fst e))
theorem L1:Ks (owners (sq w1)) [kab,kcd]:=⟨by
 rw [List.pairwise_cons]
 exact ⟨fun t ht=>by rw [List.mem_singleton] at ht;subst ht;exact .inl ((nm_lt (x:=97) (y:=99)).trans (by decide)),by simp⟩,fun s=>by
 rw [own_ne y1]
 simp [s_ab,s_cd]⟩
theorem L2:Ks (owners (sq w2)) [kab,kbc]:=⟨by
 rw [List.pairwise_cons]
 exact ⟨fun t ht=>by rw [List.mem_singleton] at ht;subst ht;exact .inl ((nm_lt (x:=97) (y:=98)).trans (by decide)),by simp⟩,fun s=>by
 rw [own_ne y2]
 simp [s_ab,s_bc]⟩
theorem L3:Ks (owners (sq w3)) [kab]:=⟨by simp,fun s=>by
 rw [own_ne y3]
 simp [s_aba,s_ba]⟩
theorem L4:Ks (owners (sq w4)) [kab]:=⟨by simp,fun s=>by
 rw [own_ne y4]
 simp [s_ab]⟩
theorem ab_in:Abcd kab.1∧Abcd kab.2:=⟨.inl rfl,.inr (.inl rfl)⟩
theorem bc_in:Abcd kbc.1∧Abcd kbc.2:=⟨.inr (.inl rfl),.inr (.inr (.inl rfl))⟩
theorem cd_in:Abcd kcd.1∧Abcd kcd.2:=⟨.inr (.inr (.inl rfl)),.inr (.inr (.inr rfl))⟩
theorem sg_ab {w:List Object} (h:MapOk (sq w)):sg (sq w) kab=⟨⟨0,0⟩,⟨4,4⟩⟩:=by unfold sg;rw [(sq_pos h).1,(sq_pos h).2.1]
theorem sg_bc {w:List Object} (h:MapOk (sq w)):sg (sq w) kbc=⟨⟨4,4⟩,⟨0,4⟩⟩:=by unfold sg;rw [(sq_pos h).2.1,(sq_pos h).2.2.1]
theorem sg_cd {w:List Object} (h:MapOk (sq w)):sg (sq w) kcd=⟨⟨0,4⟩,⟨4,0⟩⟩:=by unfold sg;rw [(sq_pos h).2.2.1,(sq_pos h).2.2.2]
theorem pr_vw:pr (nm 119) (nm 118)=[nm 118,nm 119]:=by
 have:=sMin_lt (a:=nm 118) (b:=nm 119) ((nm_lt (x:=118) (y:=119)).trans (by decide))
 unfold pr
 rw [if_neg (fun e=>by have:=nm_inj.1 e;exact absurd this (by decide)),this.2.2.1,this.2.2.2]
theorem bad1 {ids:Ids}:BadI (sq w1) ids↔ids=[nm 118,nm 119]:=by
 rw [bad_iff L1]
 constructor
 ·rintro ⟨i,hi,⟨k,hk,h⟩ | ⟨k,hk,h⟩⟩
  ·have:i=1∧k=0:=by simp at hi;omega
   obtain ⟨rfl,rfl⟩:=this
   obtain ⟨_,a,ha,b,hb,e⟩:=h
   change a∈owners (sq w1) kcd at ha
   change b∈owners (sq w1) kab at hb
   rw [sq_own y1] at ha hb
   have ea:a=nm 119:=by
    obtain ⟨o,ho,e,hs⟩:=ha
    simp only [List.mem_cons,List.not_mem_nil,or_false] at ho
    rcases ho with rfl | rfl
    ·rw [s_ab,List.mem_singleton] at hs;exact absurd hs (kne (by decide))
    ·exact e.symm
   have eb:b=nm 118:=by
    obtain ⟨o,ho,e,hs⟩:=hb
    simp only [List.mem_cons,List.not_mem_nil,or_false] at ho
    rcases ho with rfl | rfl
    ·exact e.symm
    ·rw [s_cd,List.mem_singleton] at hs;exact absurd hs (kne (by decide))
   rw [e,ea,eb,pr_vw]
  ·exfalso
   have:(i=0∨i=1)∧(k=0∨k=1):=by simp at hi;omega
   rcases this with ⟨rfl | rfl,rfl | rfl⟩
   ·exact no_X2 o1 ab_in ab_in h
   ·exact no_X2 o1 ab_in cd_in h
   ·exact no_X2 o1 cd_in ab_in h
   ·exact no_X2 o1 cd_in cd_in h
 ·rintro rfl
  refine ⟨1,by decide,.inl ⟨0,by decide,⟨3,?_,?_⟩,nm 119,?_,nm 118,?_,pr_vw.symm⟩⟩
  ·show MeetsR (sg (sq w1) kcd) (sg (sq w1) kab) 3
   rw [sg_cd o1,sg_ab o1];exact meet_cross
  ·unfold OrdN;omega
  ·exact (sq_own y1).2 ⟨wy 119 [99,100],by simp,rfl,by rw [s_cd];simp [kx,rd]⟩
  ·exact (sq_own y1).2 ⟨wy 118 [97,98],by simp,rfl,by rw [s_ab];simp [kx,rd]⟩
theorem bad2 {ids:Ids}:¬ BadI (sq w2) ids:=by
 rw [bad_iff L2]
 rintro ⟨i,hi,⟨k,hk,h⟩ | ⟨k,hk,h⟩⟩
 ·have:i=1∧k=0:=by simp at hi;omega
  obtain ⟨rfl,rfl⟩:=this
  obtain ⟨⟨n,hn,ho⟩,_⟩:=h
  change MeetsR (sg (sq w2) kbc) (sg (sq w2) kab) n at hn
  rw [sg_bc o2,sg_ab o2] at hn
  rw [hn.unique meet_corner] at ho
  exact ho (.inr ⟨rfl,.inr (.inl rfl)⟩)
 ·have:(i=0∨i=1)∧(k=0∨k=1):=by simp at hi;omega
  rcases this with ⟨rfl | rfl,rfl | rfl⟩
  ·exact no_X2 o2 ab_in ab_in h
  ·exact no_X2 o2 ab_in bc_in h
  ·exact no_X2 o2 bc_in ab_in h
  ·exact no_X2 o2 bc_in bc_in h
theorem bad3 {ids:Ids}:¬ BadI (sq w3) ids:=by
 rw [bad_iff L3]
 rintro ⟨i,hi,⟨k,hk,h⟩ | ⟨k,hk,h⟩⟩
 ·simp at hi;omega
 ·have:i=0∧k=0:=by simp at hi;omega
  obtain ⟨rfl,rfl⟩:=this
  exact no_X2 o3 ab_in ab_in h
theorem owner3:owners (sq w3) kab=[nm 118,nm 119]:=by
 have hs:∀ i,i<4→own (sq w3) (i+1) kab=own (sq w3) i kab:=fun i hi=>by
  rw [own_succ,if_neg,List.append_nil]
  rw [sides_node hi]
  rintro ⟨_,k⟩;cases k
 have hw:∀ i,i<2→SoundP (sq w3) (ob (sq w3) (4+i)):=fun i hi k hk=>by
  rw [ob_way (by exact hi)] at hk ⊢
  exact sq_nd ((y3 _ (List.getElem_mem _)).2 _ (rs_mem hk))
 have h4:own (sq w3) 4 kab=[]:=by rw [hs 3 (by omega),hs 2 (by omega),hs 1 (by omega),hs 0 (by omega)];simp [own]
 show own (sq w3) (4+0+1+1) kab=_
 rw [own_succ,own_succ,h4,if_pos ⟨hw 0 (by omega),by show kab∈sides (wy 118 [97,98,97]);rw [s_aba];simp⟩,if_pos ⟨hw 1 (by omega),by show kab∈sides (wy 119 [98,97]);rw [s_ba];simp⟩]
 rfl
theorem free4:FreeP (sq w4) ⟨⟨4,4⟩,⟨9,0⟩⟩:=⟨o4,by decide,fun L hL k hk n hn=>by
 rw [hL.unique L4,List.mem_singleton] at hk
 subst hk
 rw [sg_ab o4] at hn
 rw [hn.unique meet_free]
 exact .inr (.inl rfl)⟩
theorem not_free4:¬ FreeP (sq w4) ⟨⟨2,2⟩,⟨9,0⟩⟩:=fun h=>by
 have:=h.2.2 _ L4 kab (by simp) 2 (by rw [sg_ab o4];exact meet_touch)
 unfold Okn at this;omega
theorem unique_rise {W W':List Ids} (h:W.Pairwise lLt) (h':W'.Pairwise lLt) (hm:∀ x,x∈W↔x∈W'):W=W':=rise_unique (lt:=lLt) lLt_irr lLt_trans h h' hm
theorem way_b {c:UInt8} {l:List UInt8} {Q:Object→Prop} (h:Q (wy c l)):qe.F (nm c) (l.map nm) Q:=h
theorem head_b {Q:Bool→Prop} (hq:Q true):ww.F Q:=by
 refine W.bind_i (way_b (c:=118) (l:=[97,98]) (W.bind_i (way_b (c:=119) (l:=[99,100]) (W.bind_i (square_b (w:=w1) (by decide) ?_)))))
 refine W.bind_i (border_Check_b (fit_ok o1) (few_w (.inl rfl)) (fun k=>absurd o1 k) fun _ W1 h1 m1 _=>?_)
 have e1:W1=[[nm 118,nm 119]]:=unique_rise h1 (by simp) fun x=>by rw [m1,bad1,List.mem_singleton]
 subst e1
 refine W.bind_i (way_b (c:=118) (l:=[97,98]) (W.bind_i (way_b (c:=119) (l:=[98,99]) (W.bind_i (square_b (w:=w2) (by decide) ?_)))))
 refine W.bind_i (border_Check_b (fit_ok o2) (few_w (.inr (.inl rfl))) (fun k=>absurd o2 k) fun _ W2 h2 m2 _=>?_)
 have e2:W2=[]:=unique_rise h2 (by simp) fun x=>by rw [m2];exact iff_of_false bad2 (by simp)
 subst e2
 refine W.bind_i (way_b (c:=118) (l:=[97,98,97]) (W.bind_i (way_b (c:=119) (l:=[98,97]) (W.bind_i (square_b (w:=w3) (by decide) ?_)))))
 refine W.bind_i (border_Check_b (fit_ok o3) (few_w (.inr (.inr (.inl rfl)))) (fun k=>absurd o3 k) fun _ W3 h3 m3 _=>?_)
 have e3:W3=[]:=unique_rise h3 (by simp) fun x=>by rw [m3];exact iff_of_false bad3 (by simp)
 subst e3
 refine W.bind_i (way_b (c:=118) (l:=[97,98,97]) (W.bind_i (way_b (c:=119) (l:=[98,97]) (W.bind_i (square_b (w:=w3) (by decide) ?_)))))
 refine W.bind_i (border_Segments_b (fit_ok o3) (fun k=>absurd o3 k) fun _ L hL _=>?_)
 have eL:=hL.unique L3
 subst eL
 refine W.ite_i (fun k=>by simp at k) (fun _=>?_)
 refine W.bind_i (way_b (c:=118) (l:=[97,98]) (W.bind_i (square_b (w:=w4) (by decide) ?_)))
 refine W.bind_i (border_Free_b (fit_ok o4) fun b1 hb1=>?_)
 have f1:b1=true:=hb1.2 free4
 subst f1
 have hx:0≤(0:Int)∧(0:Int)<((([[nm 118,nm 119]]:List Ids).map viol).length:Int):=⟨by decide,by simp⟩
 have hy:0≤(0:Int)∧(0:Int)<(((([kab]:List Key).map (sg (sq w3)),([kab]:List Key).map (owners (sq w3))).2).length:Int):=⟨by decide,by simp⟩
 have hz:rd ([]:Ids) (([kab]:List Key).map (owners (sq w3))) (0:Int)=[nm 118,nm 119]:=owner3
 refine W.req_i hx (W.req_i hx (W.bind_i (ids_b (by show 2≤1000000;decide) (by show 2≤1000000;decide) fun b2 hb2=>?_)))
 have f2:b2=true:=hb2.2 rfl
 subst f2
 refine W.req_i (fun _=>hx) (W.req_i (fun _=>hx) (W.req_i (fun _=>hy) (W.req_i (fun _=>hy) (W.ite_i (fun _=>?_) (fun k=>?_)))))
 ·refine W.bind_i (ids_b (by show (rd ([]:Ids) (([kab]:List Key).map (owners (sq w3))) (0:Int)).length≤1000000;rw [hz];decide) (by show 2≤1000000;decide) fun b3 hb3=>?_)
  have f3:b3=true:=hb3.2 hz
  subst f3
  refine W.ite_i (fun _=>?_) (fun k=>by cases k)
  refine W.bind_i (way_b (c:=118) (l:=[97,98]) (W.bind_i (square_b (w:=w4) (by decide) ?_)))
  refine W.bind_i (border_Free_b (fit_ok o4) fun b4 hb4=>?_)
  have f4:b4=false:=by
   cases b4 with
   | false=>rfl
   | true=>exact absurd (hb4.1 rfl) not_free4
  subst f4
  exact hq
 ·exfalso
  have:((true&&((rd zViolation (([[nm 118,nm 119]]:List Ids).map viol) (0:Int)).Kind==(2:Int)))&&(((([]:List Ids).map viol).length:Int)==(0:Int))&&(((([]:List Ids).map viol).length:Int)==(0:Int)))=true:=rfl
  rw [this] at k;cases k
theorem range_rd {α:Type} {z:α}:∀ l:List α,(List.range l.length).map (fun i=>rd z l ((i:Nat):Int))=l:=fun l=>by
 apply List.ext_getElem
 ·simp
 ·intro i h1 h2
  simp only [List.getElem_map,List.getElem_range]
  exact rd_nat h2
open Classical in
theorem own_obj {m:Map} {s:Key}:owners m s=(m.Objects.filter (fun o=>decide (SoundP m o∧s∈sides o))).map (·.Id):=by
 have e:m.Objects.filter (fun o=>decide (SoundP m o∧s∈sides o))=((List.range m.Objects.length).filter (fun i=>decide (SoundP m (ob m i)∧s∈sides (ob m i)))).map (ob m):=by
  have:=range_rd (z:=zObject) m.Objects
  conv=>lhs;rw [← this]
  rw [List.filter_map]
  rfl
 rw [e,List.map_map]
 rfl
theorem ob_mem {m:Map} {i:Nat} (h:i<m.Objects.length):ob m i∈m.Objects:=by unfold ob;rw [rd_nat h];exact List.getElem_mem h
theorem mem_ob {m:Map} {o:Object} (h:o∈m.Objects):∃ i,i<m.Objects.length∧ob m i=o:=by
 obtain ⟨i,hi,e⟩:=List.mem_iff_getElem.1 h
 exact ⟨i,hi,by unfold ob;rw [rd_nat hi];exact e⟩
theorem nd_mem {m:Map} {id:ByteArray}:Nd m id↔∃ o∈m.Objects,o.Id=id∧o.Kind=1:=by
 constructor
 ·rintro ⟨j,hj,hk⟩;exact ⟨_,ob_mem hj.1,hj.2,hk⟩
 ·rintro ⟨o,ho,e,hk⟩
  obtain ⟨i,hi,rfl⟩:=mem_ob ho
  exact ⟨i,⟨hi,e⟩,hk⟩
theorem pos_mem {m:Map} (h:MapOk m) {o:Object} (ho:o∈m.Objects):pos m o.Id=o.At:=by
 obtain ⟨i,hi,rfl⟩:=mem_ob ho
 exact pos_eq h ⟨hi,rfl⟩
theorem ok_mem {m:Map}:MapOk m↔m.Objects.length≤1000000∧(∀ o∈m.Objects,ObjOk o)∧m.Objects.Pairwise (fun a b=>sLt a.Id b.Id=true):=by
 constructor
 ·intro h
  refine ⟨h.few,fun o ho=>?_,?_⟩
  ·obtain ⟨i,hi,rfl⟩:=mem_ob ho
   exact h.each i hi
  ·rw [List.pairwise_iff_getElem]
   intro i j hi hj hij
   have:=h.lt hij hj
   unfold ob at this
   rw [rd_nat hi,rd_nat hj] at this
   exact this
 ·rintro ⟨h1,h2,h3⟩
  refine ⟨h1,fun i hi=>h2 _ (ob_mem hi),fun i hi=>?_⟩
  unfold ob
  rw [rd_nat hi,rd_nat (show i<m.Objects.length by omega)]
  exact List.pairwise_iff_getElem.1 h3 i (i+1) (by omega) hi (by omega)
theorem own_nodes {m:Map} {s:Key} (h:owners m s≠[]):Nd m s.1∧Nd m s.2:=by
 obtain ⟨a,ha⟩:=List.exists_mem_of_ne_nil _ h
 obtain ⟨i,hi,_,h1,h2⟩:=own_mem.1 ha
 obtain ⟨⟨i,hi,e⟩,⟨j,hj,e2⟩⟩:=sides_refs h2
 rw [e,e2]
 exact ⟨h1 i hi,h1 j hj⟩
end Go.Gp.Gb
end
section
set_option linter.unusedVariables false
set_option linter.unusedSimpArgs false
set_option maxRecDepth 10000
namespace Go.Gp.Gb
theorem cmp_bytes:∀ a b:List UInt8,(Lib.compareBytes a b<0↔Op.bytesLess a b=true)∧(Lib.compareBytes a b=0↔a=b)
 | [],[]=>by simp [Lib.compareBytes,Op.bytesLess]
 | [],y::b=>by simp [Lib.compareBytes,Op.bytesLess]
 | x::a,[]=>by simp [Lib.compareBytes,Op.bytesLess]
 | x::a,y::b=>by
  have ih:=cmp_bytes a b
  simp only [Lib.compareBytes,Op.bytesLess]
  by_cases h1:x<y
  ·have hne:x≠y:=fun e=>by subst e;exact absurd h1 (UInt8.lt_irrefl x)
   simp [h1,hne]
  ·by_cases h2:y<x
   ·have hne:x≠y:=fun e=>by subst e;exact absurd h2 (UInt8.lt_irrefl x)
    simp [h1,h2,hne]
   ·have he:x=y:=UInt8.le_antisymm (UInt8.not_lt.1 h2) (UInt8.not_lt.1 h1)
    subst he
    simp [UInt8.lt_irrefl,ih]
theorem cmp_lt {a b:ByteArray}:(Extern.BytealgCompare.cmp a b<0)=(sLt a b=true):=by
 rw [Lib.cmp_eq,propext (cmp_bytes _ _).1]
 unfold sLt
 rw [size_toList,size_toList]
theorem cmp_zero {a b:ByteArray}:(Extern.BytealgCompare.cmp a b=0)=(a=b):=by
 rw [Lib.cmp_eq,propext (cmp_bytes _ _).2]
 refine propext ⟨fun h=>toList_inj (by rw [size_toList,size_toList];exact h),fun h=>by rw [h]⟩
theorem atlas_Find_b {m:Map} (hl:m.Objects.length≤1000000) {id:ByteArray} {Q:Int→Prop} (hn:(¬ ∃ j:Nat,Holds m id j)→Q (-1)) (hy:∀ j:Nat,Holds m id j→(∀ i,i<j→(ob m i).Id≠id)→Q (j:Int)):zn.F m id Q:=by
 show Jt.F m.Objects id Q
 refine W.up1 m.Objects.length (fun i=>∀ j,j<i→(ob m j).Id≠id) (fun j h=>by omega) (fun K i hi hI hK=>?_)
 refine W.dec_i (fun hlt=>W.req_i ⟨by omega,hlt⟩ ?_) (fun hge=>?_)
 ·have hi':i<m.Objects.length:=by omega
  show W.ite (sEq (ob m i).Id id) _ _ Q
  refine W.ite_i (fun h=>?_) (fun h=>?_)
  ·rw [sEq_eq] at h
   exact hy i ⟨hi',h⟩ hI
  ·rw [sEq_false] at h
   rw [w64_succ (by omega)]
   refine hK hi' (fun j hj=>?_)
   by_cases e:j=i
   ·subst e;exact h
   ·exact hI j (by omega)
 ·refine hn ?_
  rintro ⟨j,hj,e⟩
  exact hI j (by omega) e
theorem half_w {a b:Nat} (ha:a≤b) (hb:b≤4000000000):w64 (Int.fdiv (IntKind.wrap .u64 (w64 ((a:Int)+(b:Int)))) (2 ^ (min (1:Int).toNat (IntKind.bits .u64))))=(((a+b) / 2:Nat):Int):=by
 rw [w64_id (x:=(a:Int)+(b:Int)) (by omega) (by omega)]
 have e1:IntKind.wrap .u64 ((a:Int)+(b:Int))=(a:Int)+(b:Int):=by
  simp [IntKind.wrap,IntKind.bits,IntKind.signed];omega
 have e2:(2:Int) ^ (min (1:Int).toNat (IntKind.bits .u64))=2:=rfl
 rw [e1,e2,Int.fdiv_eq_ediv_of_nonneg _ (by decide)]
 rw [w64_id (by omega) (by omega)]
 omega
structure Spot (m:Map) (id:ByteArray) (i:Nat):Prop where
 le:i≤m.Objects.length
 lo:∀ j,j<i→sLt (ob m j).Id id=true
 hi:∀ j,i≤j→j<m.Objects.length→sLt (ob m j).Id id=false
theorem atlas_at_b {m:Map} (h:MapOk m) {id:ByteArray} {Q:Int×Bool→Prop} (hq:∀ i,Spot m id i→∀ b,(b=true↔Holds m id i)→Q ((i:Int),b)):atlas_at.F m id Q:=by
 have hl:=h.few
 show Js.F m.Objects id (fun r1=>Q (r1.1,r1.2))
 refine W.loop2 (fun (f t:Int)=>∃ a b:Nat,f=(a:Int)∧t=(b:Int)∧a≤b∧b≤m.Objects.length∧(∀ j,j<a→sLt (ob m j).Id id=true)∧(∀ j,b≤j→j<m.Objects.length→sLt (ob m j).Id id=false)) (fun f t=>t.toNat-f.toNat) ?_ ⟨0,m.Objects.length,rfl,rfl,by omega,by omega,fun j h=>by omega,fun j h1 h2=>by omega⟩
 rintro K f t ⟨a,b,rfl,rfl,hab,hb,h1,h2⟩ hk
 refine W.dec_i (fun hlt=>?_) (fun hge=>?_)
 ·rw [half_w hab (by omega)]
  have hc:(a+b) / 2<m.Objects.length:=by omega
  generalize hcc:(a+b) / 2=c at *
  refine W.req_i (by decide) (W.req_i ⟨by omega,by omega⟩ ?_)
  show W.ite (decide (Extern.BytealgCompare.cmp (ob m c).Id id<0)) _ _ _
  refine W.dec_i (fun hs=>?_) (fun hs=>?_)
  ·rw [cmp_lt] at hs
   rw [w64_succ (by omega)]
   refine hk _ _ ⟨c+1,b,rfl,rfl,by omega,hb,fun j hj=>?_,h2⟩ (by omega)
   by_cases e2:j=c
   ·subst e2;exact hs
   ·exact sLt_trans (h.lt (show j<c by omega) hc) hs
  ·rw [cmp_lt,Bool.not_eq_true] at hs
   refine hk _ _ ⟨a,c,rfl,rfl,by omega,by omega,h1,fun j hj1 hj2=>?_⟩ (by omega)
   by_cases e2:j=c
   ·subst e2;exact hs
   ·cases hq:sLt (ob m j).Id id with
    | false=>rfl
    | true=>rw [sLt_trans (h.lt (show c<j by omega) hj2) hq] at hs;cases hs
 ·have hab':a=b:=by omega
  subst hab'
  refine W.req_i (fun hd=>⟨by omega,by simpa using hd⟩) (W.bind_i ?_)
  refine W.dec_i (fun hlt=>?_) (fun hge2=>?_)
  ·show Q ((a:Int),decide ((a:Int)<(m.Objects.length:Int))&&(Extern.BytealgCompare.cmp (ob m a).Id id==0))
   refine hq a ⟨hb,h1,h2⟩ _ ?_
   rw [decide_eq_true hlt,Bool.true_and,beq_iff_eq,cmp_zero]
   exact ⟨fun e=>⟨by omega,e⟩,fun e=>e.2⟩
  ·show Q ((a:Int),decide ((a:Int)<(m.Objects.length:Int))&&((0:Int)==0))
   refine hq a ⟨hb,h1,h2⟩ _ ?_
   rw [decide_eq_false hge2]
   exact ⟨fun e=>(by simp at e),fun e=>by have:=e.1;omega⟩
theorem atlas_valid_b {m:Map} (hf:MapFit m) {Q:Bool→Prop} (h:∀ b,(b=true↔MapOk m)→Q b):zp.F [m] Q:=by
 show Jx.F [m] (fun r1=>Q (!(decide ((0:Int)≤r1))))
 refine W.up1 1 (fun i=>i=0∨MapOk m) (.inl rfl) (fun K i hi hI hK=>?_)
 refine W.dec_i (fun hlt=>W.req_i ⟨by omega,hlt⟩ ?_) (fun hge=>?_)
 ·have hi':i=0:=by simp only [List.length_cons,List.length_nil] at hlt;omega
  subst hi'
  show qa.F m _
  refine atlas_Valid_b hf fun b hb=>?_
  show W.ite (!b) _ _ _
  refine W.ite_i (fun k=>?_) (fun k=>?_)
  ·refine h _ ⟨fun e=>by simp at e,fun e=>?_⟩
   rw [hb.2 e] at k;cases k
  ·exact hK (by omega) (.inr (hb.1 (by simpa using k)))
 ·have hi':i=1:=by simp only [List.length_cons,List.length_nil] at hge;omega
  subst hi'
  refine h _ ⟨fun _=>hI.resolve_left (by omega),fun _=>by decide⟩
theorem insert_b {l:List Object} (hl:l.length≤1000000) {o:Object} {i:Nat} (hi:i≤l.length) {Q:List Object→Prop} (hq:Q (l.take i++o::l.drop i)):Vn.F l (i:Int) [o] Q:=by
 refine W.req_i ⟨by omega,by omega⟩ ?_
 have h1:((([o]:List Object).length:Int)==(0:Int))=false:=rfl
 rw [h1]
 show W.ite ((i:Int)==(l.length:Int)) _ _ Q
 refine W.ite_i (fun h=>?_) (fun h=>?_)
 ·have he:i=l.length:=by simp at h;omega
  subst he
  refine W.req_i (by simp only [List.length_cons,List.length_nil];omega) ?_
  show Q (l++[o])
  simpa using hq
 ·have he:i≠l.length:=fun e=>by subst e;simp at h
  obtain ⟨A,b,B,rfl,hA⟩:∃ A b B,l=A++b::B∧A.length=i:=⟨l.take i,l[i]'(by omega),l.drop (i+1),by simp,by simp;omega⟩
  subst hA
  have eN:(A++b::B).length=A.length+B.length+1:=by simp;omega
  generalize hN:(A++b::B).length=N at *
  have hlen:([o]:List Object).length=1:=rfl
  have w1:w64 ((N:Int)+(([o]:List Object).length:Int))=((N+1:Nat):Int):=by rw [hlen,w64_id (by omega) (by omega)];omega
  have w2:w64 (((N+1:Nat):Int)-(A.length:Int))=((N+1-A.length:Nat):Int):=by rw [w64_id (by omega) (by omega)];omega
  have w3:w64 ((A.length:Int)+(([o]:List Object).length:Int))=((A.length+1:Nat):Int):=by rw [hlen,w64_id (by omega) (by omega)];omega
  have t1:((N+1-A.length:Nat):Int).toNat=N+1-A.length:=by omega
  have t2:((A.length+1:Nat):Int).toNat=A.length+1:=by omega
  have t3:((A.length:Nat):Int).toNat=A.length:=by omega
  have t4:((N+1:Nat):Int).toNat=N+1:=by omega
  have k1:(A++b::B).take A.length=A:=List.take_left' rfl
  have k2:(A++b::B).drop A.length=b::B:=List.drop_left' rfl
  have k3:(A++b::B).take N=A++b::B:=List.take_of_length_le (by omega)
  rw [k1,k2] at hq
  refine W.req_i (by omega) (fun c hc=>?_)
  rw [w1]
  refine W.dec_i (fun hlt=>?_) (fun hge=>?_)
  ·rw [w2,w3]
   simp only [t1,t2,t3,k1,k2,k3]
   have r1:List.replicate (N+1-A.length) zObject=zObject::List.replicate (B.length+1) zObject:=by
    rw [show N+1-A.length=(B.length+1)+1 by omega];rfl
   rw [r1]
   generalize hR:List.replicate (B.length+1) zObject=R
   have eR:R.length=B.length+1:=by rw [← hR];simp
   have e1:(A++zObject::R).length=N+1:=by simp;omega
   have e2:(A++zObject::R).take A.length=A:=List.take_left' rfl
   have e3:(A++zObject::R).drop (A.length+([o]:List Object).length)=R:=by
    rw [show A++zObject::R=(A++[zObject])++R by simp]
    exact List.drop_left' (by simp)
   simp only [e1,e2,e3]
   have f1:(A++[o]++R).length=N+1:=by simp;omega
   have f2:(A++[o]++R).take (A.length+1)=A++[o]:=List.take_left' (by simp)
   have f3:(A++[o]++R).drop (A.length+1+(b::B).length)=[]:=List.drop_eq_nil_of_le (by rw [f1];simp;omega)
   have f4:(b::B).length=B.length+1:=rfl
   simp only [f1,f2,f3]
   refine W.req_i ?_ (W.req_i ?_ (W.req_i ?_ (W.req_i ?_ (W.req_i ?_ (W.req_i ?_ (W.req_i ?_ (W.req_i ?_ ?k)))))))
   case k=>
    show Q (A++[o]++b::B++[])
    simpa using hq
   all_goals clear k1 k2 k3 hq hR r1 e2 e3 f2 f3 w1 w2 w3
   all_goals omega
  ·rw [w3]
   have g1:(A++b::B).take (A.length+1)++b::B=A++b::b::B:=by
    rw [show A++b::B=(A++[b])++B by simp,List.take_left' (by simp)];simp
   have g2:(A++b::b::B).take A.length=A:=List.take_left' rfl
   have g3:(A++b::b::B).drop (A.length+([o]:List Object).length)=b::B:=by
    rw [show A++b::b::B=(A++[b])++b::B by simp]
    exact List.drop_left' (by simp)
   have g4:(A++b::b::B).length=N+1:=by simp;omega
   simp only [t2,t3,t4,k2,g1,g2,g3,g4]
   refine W.req_i ?_ (W.req_i ?_ (W.req_i ?_ (W.req_i ?_ (W.req_i ?_ (W.req_i ?_ (W.req_i ?_ (W.req_i ?_ ?k)))))))
   case k=>
    show Q (A++[o]++b::B)
    simpa using hq
   all_goals clear k1 k2 k3 hq g1 g2 g3 w1 w2 w3
   all_goals omega
theorem clone_b {l:List Object} (hl:l.length≤1000000) {Q:List Object→Prop} (hq:Q l):Vw.F l Q:=by
 intro b hb
 refine W.ite_i (fun h=>?_) (fun _=>W.req_i (by simp only [List.length_nil];omega) hq)
 rw [hb h] at hq
 exact hq
theorem atlas_Put_b {m:Map} (h:MapOk m) (hf:MapFit m) {o:Object} (hfo:ObjFit o) {Q:Map×Int→Prop}
  (hbad:¬ ObjOk o→Q (⟨[]⟩,1)) (hset:ObjOk o→∀ j,Holds m o.Id j→Q (⟨m.Objects.set j o⟩,0)) (hfull:m.Objects.length=1000000→Q (⟨[]⟩,2))
  (hins:ObjOk o→(¬ ∃ j,Holds m o.Id j)→∀ i,Spot m o.Id i→Q (⟨m.Objects.take i++o::m.Objects.drop i⟩,0)):atlas_Put.F m o Q:=by
 have hl:=h.few
 refine W.bind_i (atlas_valid_b hf fun b hb=>?_)
 have hbt:b=true:=hb.2 h
 subst hbt
 refine W.bind_i (object_Valid_b hfo fun b2 hb2=>?_)
 show W.ite (!b2) _ _ Q
 refine W.ite_i (fun k=>hbad fun e=>by rw [hb2.2 e] at k;cases k) (fun k=>?_)
 have ho:ObjOk o:=hb2.1 (by simpa using k)
 refine W.bind_i (atlas_at_b h fun i hi b3 hb3=>W.bind_i (clone_b hl ?_))
 refine W.ite_i (fun k3=>?_) (fun k3=>?_)
 ·have hx:=hb3.1 k3
  have:=hx.1
  refine W.req_i (by show 0≤(i:Int)∧_;omega) (W.req_i (by show 0≤(i:Int)∧_;omega) ?_)
  show Q (⟨m.Objects.set (i:Int).toNat o⟩,0)
  rw [show (i:Int).toNat=i by omega]
  exact hset ho i hx
 ·have hnx:¬ ∃ j,Holds m o.Id j:=by
   rintro ⟨j,hj,e⟩
   by_cases e1:j<i
   ·have:=hi.lo j e1;rw [e,sLt_irr] at this;cases this
   ·by_cases e2:j=i
    ·subst e2
     have:Holds m o.Id j:=⟨hj,e⟩
     rw [hb3.2 this] at k3;cases k3
    ·have:=hi.hi i (Nat.le_refl _) (by omega)
     have h2:=h.lt (show i<j by omega) hj
     rw [e] at h2
     rw [h2] at this;cases this
  refine W.ite_i (fun k4=>hfull (by simp at k4;omega)) (fun k4=>?_)
  exact W.bind_i (insert_b hl hi.le (hins ho hnx i hi))
end Go.Gp.Gb
end
section
set_option linter.unusedVariables false
set_option linter.unusedSimpArgs false
set_option maxRecDepth 10000
namespace Go.Gp.Gb
open Geo
open Classical in
theorem own_o {m:Map} {s:Key} {a:ByteArray}:a∈owners m s↔∃ p∈m.Objects,SoundP m p∧s∈sides p∧p.Id=a:=by
 rw [own_obj]
 constructor
 ·intro h
  obtain ⟨p,hp,rfl⟩:=List.mem_map.1 h
  obtain ⟨h1,h2⟩:=List.mem_filter.1 hp
  rw [decide_eq_true_eq] at h2
  exact ⟨p,h1,h2.1,h2.2,rfl⟩
 ·rintro ⟨p,hp,h1,h2,rfl⟩
  exact List.mem_map.2 ⟨p,List.mem_filter.2 ⟨hp,decide_eq_true ⟨h1,h2⟩⟩,rfl⟩
theorem holds_mem {m:Map} {id:ByteArray}:(∃ j,Holds m id j)↔∃ p∈m.Objects,p.Id=id:=by
 constructor
 ·rintro ⟨j,hj,e⟩;exact ⟨_,ob_mem hj,e⟩
 ·rintro ⟨p,hp,e⟩
  obtain ⟨j,hj,rfl⟩:=mem_ob hp
  exact ⟨j,hj,e⟩
structure AddM (m m':Map) (o:Object):Prop where
 mem:∀ p,p∈m'.Objects↔p=o∨p∈m.Objects
 ok:MapOk m
 ok':MapOk m'
 kind:o.Kind≠1
 new:∀ p∈m.Objects,p.Id≠o.Id
theorem add_of {m:Map} (h:MapOk m) (hl:m.Objects.length<1000000) {o:Object} (ho:ObjOk o) {i:Nat} (hs:Spot m o.Id i) (hn:¬ ∃ j,Holds m o.Id j) (hk:o.Kind≠1):AddM m ⟨m.Objects.take i++o::m.Objects.drop i⟩ o:=by
 have hm:∀ p,p∈m.Objects.take i++o::m.Objects.drop i↔p=o∨p∈m.Objects:=fun p=>by
  conv=>rhs;rw [← List.take_append_drop i m.Objects]
  simp only [List.mem_append,List.mem_cons]
  constructor
  ·rintro (q | q | q)
   ·exact .inr (.inl q)
   ·exact .inl q
   ·exact .inr (.inr q)
  ·rintro (q | q | q)
   ·exact .inr (.inl q)
   ·exact .inl q
   ·exact .inr (.inr q)
 have hnew:∀ p∈m.Objects,p.Id≠o.Id:=fun p hp e=>hn (holds_mem.2 ⟨p,hp,e⟩)
 have ho3:=ok_mem.1 h
 refine ⟨hm,h,ok_mem.2 ⟨?_,fun p hp=>?_,?_⟩,hk,hnew⟩
 ·show (m.Objects.take i++o::m.Objects.drop i).length≤1000000
  have:=hs.le
  rw [List.length_append,List.length_cons,List.length_take,List.length_drop]
  omega
 ·rcases (hm p).1 hp with rfl | hp
  ·exact ho
  ·exact ho3.2.1 p hp
 ·have hp:=ho3.2.2
  rw [← List.take_append_drop i m.Objects,List.pairwise_append] at hp
  show (m.Objects.take i++o::m.Objects.drop i).Pairwise _
  rw [List.pairwise_append,List.pairwise_cons]
  have lo:∀ p∈m.Objects.take i,sLt p.Id o.Id=true:=fun p hp=>by
   obtain ⟨j,hj,rfl⟩:=List.mem_iff_getElem.1 hp
   rw [List.length_take] at hj
   rw [List.getElem_take]
   have:=hs.lo j (by omega)
   unfold ob at this
   rw [rd_nat (by omega)] at this
   exact this
  have hi:∀ p∈m.Objects.drop i,sLt o.Id p.Id=true:=fun p hp=>by
   have hpm:=List.mem_of_mem_drop hp
   obtain ⟨j,hj,rfl⟩:=List.mem_iff_getElem.1 hp
   rw [List.length_drop] at hj
   have h1:=hs.hi (i+j) (by omega) (by omega)
   unfold ob at h1
   rw [rd_nat (by omega)] at h1
   rw [List.getElem_drop] at hpm ⊢
   rcases sLt_tri m.Objects[i+j].Id o.Id with q | q | q
   ·rw [q] at h1;cases h1
   ·exact absurd q (hnew _ hpm)
   ·exact q
  refine ⟨hp.1,⟨hi,hp.2.1⟩,fun a ha b hb=>?_⟩
  rcases List.mem_cons.1 hb with rfl | hb
  ·exact lo a ha
  ·exact sLt_trans (lo a ha) (hi b hb)
section
variable {m m' : Map} {o : Object}
theorem AddM.nd (h:AddM m m' o) {id:ByteArray}:Nd m' id↔Nd m id:=by
 rw [nd_mem,nd_mem]
 constructor
 ·rintro ⟨p,hp,e,hk⟩
  rcases (h.mem p).1 hp with rfl | hp
  ·exact absurd hk h.kind
  ·exact ⟨p,hp,e,hk⟩
 ·rintro ⟨p,hp,e,hk⟩;exact ⟨p,(h.mem p).2 (.inr hp),e,hk⟩
theorem AddM.sound (h:AddM m m' o) {p:Object}:SoundP m' p↔SoundP m p:=⟨fun k i hi=>h.nd.1 (k i hi),fun k i hi=>h.nd.2 (k i hi)⟩
theorem AddM.own (h:AddM m m' o) {s:Key} {a:ByteArray}:a∈owners m' s↔a∈owners m s∨(a=o.Id∧SoundP m o∧s∈sides o):=by
 rw [own_o,own_o]
 constructor
 ·rintro ⟨p,hp,h1,h2,rfl⟩
  rcases (h.mem p).1 hp with rfl | hp
  ·exact .inr ⟨rfl,h.sound.1 h1,h2⟩
  ·exact .inl ⟨p,hp,h.sound.1 h1,h2,rfl⟩
 ·rintro (⟨p,hp,h1,h2,rfl⟩ | ⟨rfl,h1,h2⟩)
  ·exact ⟨p,(h.mem p).2 (.inr hp),h.sound.2 h1,h2,rfl⟩
  ·exact ⟨o,(h.mem o).2 (.inl rfl),h.sound.2 h1,h2,rfl⟩
theorem AddM.pos (h:AddM m m' o) {id:ByteArray} (hn:Nd m id):Gb.pos m' id=Gb.pos m id:=by
 obtain ⟨p,hp,rfl,_⟩:=nd_mem.1 hn
 rw [pos_mem h.ok hp,pos_mem h.ok' ((h.mem p).2 (.inr hp))]
theorem AddM.nodes (h:AddM m m' o) {s:Key} (hs:owners m' s≠[]):Nd m s.1∧Nd m s.2:=⟨h.nd.1 (own_nodes hs).1,h.nd.1 (own_nodes hs).2⟩
theorem AddM.sg (h:AddM m m' o) {s:Key} (hs:owners m' s≠[]):Gb.sg m' s=Gb.sg m s:=by
 have:=h.nodes hs
 unfold Gb.sg
 rw [h.pos this.1,h.pos this.2]
theorem AddM.own_id (h:AddM m m' o) {s:Key}:o.Id∈owners m' s↔SoundP m o∧s∈sides o:=by
 rw [h.own]
 constructor
 ·rintro (q | q)
  ·obtain ⟨p,hp,_,_,e⟩:=own_o.1 q
   exact absurd e (h.new p hp)
  ·exact q.2
 ·intro q;exact .inr ⟨rfl,q⟩
end
theorem bad_pair {m:Map} {s t:Key} (hs:owners m s≠[]) (ht:owners m t≠[]) (h:(s≠t∧∃ n,MeetsR (sg m s) (sg m t) n∧¬ OrdN n s t)∨∃ a,(a=s.1∨a=s.2)∧∃ b,(b=t.1∨b=t.2)∧a≠b∧pos m a=pos m b):∃ ids,BadI m ids:=by
 rcases h with ⟨hne,n,hn,ho⟩ | ⟨a,ha,b,hb,hne,hp⟩
 ·obtain ⟨a,ha⟩:=List.exists_mem_of_ne_nil _ hs
  obtain ⟨b,hb⟩:=List.exists_mem_of_ne_nil _ ht
  exact ⟨_,s,t,hs,ht,.inl ⟨hne,⟨n,hn,ho⟩,a,ha,b,hb,rfl⟩⟩
 ·exact ⟨_,s,t,hs,ht,.inr ⟨a,ha,b,hb,hne,hp,rfl⟩⟩
theorem pair_bad {m:Map} {ids:Ids} (h:BadI m ids):∃ s t,owners m s≠[]∧owners m t≠[]∧((s≠t∧∃ n,MeetsR (sg m s) (sg m t) n∧¬ OrdN n s t)∨∃ a,(a=s.1∨a=s.2)∧∃ b,(b=t.1∨b=t.2)∧a≠b∧pos m a=pos m b):=by
 obtain ⟨s,t,hs,ht,hh⟩:=h
 refine ⟨s,t,hs,ht,?_⟩
 rcases hh with ⟨hne,⟨n,hn,ho⟩,_⟩ | ⟨a,ha,b,hb,hne,hp,_⟩
 ·exact .inl ⟨hne,n,hn,ho⟩
 ·exact .inr ⟨a,ha,b,hb,hne,hp⟩
theorem AddM.bad {m m':Map} {o:Object} (h:AddM m m' o) (he:∀ s,owners m' s≠[]→owners m s≠[]) {ids:Ids} (hb:BadI m' ids):∃ ids,BadI m ids:=by
 obtain ⟨s,t,hs,ht,hh⟩:=pair_bad hb
 refine bad_pair (he s hs) (he t ht) ?_
 rw [h.sg hs,h.sg ht] at hh
 rcases hh with hh | ⟨a,ha,b,hb,hne,hp⟩
 ·exact .inl hh
 ·have ns:=h.nodes hs
  have nt:=h.nodes ht
  have na:Nd m a:=ha.elim (fun e=>e ▸ ns.1) (fun e=>e ▸ ns.2)
  have nb:Nd m b:=hb.elim (fun e=>e ▸ nt.1) (fun e=>e ▸ nt.2)
  rw [h.pos na,h.pos nb] at hp
  exact .inr ⟨a,ha,b,hb,hne,hp⟩
end Go.Gp.Gb
end
section
set_option linter.unusedVariables false
set_option linter.unusedSimpArgs false
set_option maxRecDepth 10000
namespace Go.Gp.Gb
open Geo
theorem okI_u8 {n:Int} (h:okI .u8 n):0≤n∧n≤255:=by
 unfold okI Lit.wf at h
 rw [Bool.and_eq_true,decide_eq_true_eq,decide_eq_true_eq] at h
 exact ⟨h.1,h.2⟩
theorem has_l {l:Ids} {x:ByteArray} {i:Nat} {b:Bool} (hi:i<l.length) (hb:b=true↔x∈l.take i):(b||sEq (rd (⟨#[]⟩:ByteArray) l (i:Int)) x)=true↔x∈l.take (i+1):=by
 rw [Bool.or_eq_true,hb,sEq_eq,rd_nat hi,List.take_add_one,List.getElem?_eq_getElem hi]
 simp only [Option.toList_some,List.mem_append,List.mem_singleton]
 exact or_congr Iff.rfl eq_comm
theorem place {raw:Int} {n:Nat} (hr:0≤raw∧raw≤255) (h0:n≠0):∃ i:Nat,i<n∧Int.tmod (w64 raw) (n:Int)=(i:Int):=by
 obtain ⟨r,rfl⟩:=Int.eq_ofNat_of_zero_le hr.1
 refine ⟨r % n,Nat.mod_lt _ (by omega),?_⟩
 rw [w64_id (by omega) (by omega),← Int.ofNat_tmod]
theorem fit_id {o:Object} (h:ObjFit o) {id:ByteArray} (hid:okS id):ObjFit { o with Id:=id }:=⟨hid,h.refs,h.each,h.tags,h.keys⟩
theorem some_iff {m m':Map} {o o0:Object} {id:ByteArray} (e:o={ o0 with Id:=id }) (h0:o0∈m.Objects) (h:AddM m m' o) {s:Key}:(owners m' s≠[]↔owners m s≠[])∧(o.Id∈owners m' s↔o0.Id∈owners m s):=by
 have hs:SoundP m o↔SoundP m o0:=by subst e;exact Iff.rfl
 have hd:sides o=sides o0:=by subst e;rfl
 have hown:o0.Id∈owners m s↔SoundP m o0∧s∈sides o0:=by
  rw [own_o]
  constructor
  ·rintro ⟨p,hp,h1,h2,e1⟩
   obtain ⟨i,hi,rfl⟩:=mem_ob hp
   obtain ⟨j,hj,rfl⟩:=mem_ob h0
   have:=h.ok.inj hi hj e1
   subst this
   exact ⟨h1,h2⟩
  ·rintro ⟨h1,h2⟩;exact ⟨o0,h0,h1,h2,rfl⟩
 have key:o.Id∈owners m' s↔o0.Id∈owners m s:=by rw [h.own_id,hown,hs,hd]
 refine ⟨⟨fun hne=>?_,fun hne=>?_⟩,key⟩
 ·obtain ⟨a,ha⟩:=List.exists_mem_of_ne_nil _ hne
  rcases h.own.1 ha with q | ⟨_,h1,h2⟩
  ·exact List.ne_nil_of_mem q
  ·exact List.ne_nil_of_mem (hown.2 ⟨hs.1 h1,hd ▸ h2⟩)
 ·obtain ⟨a,ha⟩:=List.exists_mem_of_ne_nil _ hne
  exact List.ne_nil_of_mem (h.own.2 (.inl ha))
theorem shared_refs {m:Map} (h:MapOk m) {id:ByteArray} {r1:Bool} {K:W Bool} {Q:Bool→Prop} (hq:Q r1) (hk:K Q):(W.ex fun n=>W.iter1 (Jr.l4 m id r1 K) n (0:Int)) Q:=by
 have hl:=h.few
 refine W.up1 m.Objects.length (fun _=>True) trivial (fun K1 i hi _ hK1=>?_)
 refine W.dec_i (fun hlt=>?_) (fun _=>hk)
 have hi':i<m.Objects.length:=by omega
 have hc:=(h.each i hi').count.1
 refine W.up1 (ob m i).Refs.length (fun _=>True) trivial (fun K2 k hk2 _ hK2=>?_)
 refine W.req_i ⟨by omega,hlt⟩ (W.dec_i (fun hlt2=>W.req_i ⟨by omega,hlt⟩ (W.req_i ⟨by omega,hlt2⟩ (W.ite_i (fun _=>hq) (fun _=>?_)))) (fun _=>?_))
 ·have:(k:Int)<((ob m i).Refs.length:Int):=hlt2
  rw [w64_succ (by omega)]
  exact hK2 (by omega) trivial
 ·show K1 (w64 ((i:Int)+1)) Q
  rw [w64_succ (by omega)]
  exact hK1 hi' trivial
theorem law_shared {m:Map} {raw:Int} {id:ByteArray} (hm:ok_Map m) (hr:okI .u8 raw) (hid:okS id):Jr.F m raw id (fun r=>r=true):=by
 have hf:=fit_of hm
 have hraw:=okI_u8 hr
 refine W.bind_i (head_b (W.bind_i (ref13_Few_b hf (by decide) fun b hb=>W.bind_i ?_)))
 cases b with
 | false=>exact rfl
 | true=>
  have hfew:=hb rfl
  have hlen:m.Objects.length≤24:=by have:=hfew.few;omega
  show qa.F m _
  refine atlas_Valid_b hf fun b2 hb2=>W.bind_i ?_
  cases hA:((((!true)||(!b2))||((m.Objects.length:Int)==(0:Int)))||(decide ((24:Int)<(id.size:Int)))) with
  | true=>exact rfl
  | false=>
   rw [Bool.or_eq_false_iff,Bool.or_eq_false_iff,Bool.or_eq_false_iff] at hA
   obtain ⟨⟨⟨_,hA2⟩,hA3⟩,hA4⟩:=hA
   have h:MapOk m:=hb2.1 (by simpa using hA2)
   have hl0:m.Objects.length≠0:=by intro e;rw [e] at hA3;simp at hA3
   obtain ⟨i0,hi0,ei0⟩:=place hraw hl0
   have h0:=ob_mem (m:=m) hi0
   show zn.F m id _
   refine atlas_Find_b (by omega) (fun hno=>?_) (fun j hj _=>W.ite_i (fun _=>rfl) (fun k=>by rw [Bool.or_eq_false_iff,decide_eq_false_iff_not] at k;omega))
   refine W.ite_i (fun _=>rfl) (fun _=>?_)
   unfold Jr.c1 Jr.l1 Jr.l3
   rw [ei0]
   refine W.req_i (by omega) (W.req_i ⟨by omega,by omega⟩ (W.bind_i ?_))
   obtain ⟨o,ho⟩:∃ o,o=({ ob m i0 with Id:=id }:Object):=⟨_,rfl⟩
   show atlas_Put.F m ({ ob m i0 with Id:=id }:Object) _
   rw [← ho]
   have hoid:o.Id=id:=by rw [ho]
   have hok:o.Kind=(ob m i0).Kind:=by rw [ho]
   refine atlas_Put_b h hf (by rw [ho];exact fit_id (hf.each i0 hi0) hid) (fun _=>rfl) (fun _ j hj=>absurd ⟨j,by rw [hoid] at hj;exact hj⟩ hno) (fun e=>by omega) (fun hoo hnx i hsp=>?_)
   refine W.ite_i (fun _=>rfl) (fun hk=>?_)
   have hkind:o.Kind≠1:=fun e=>by
    rw [Bool.or_eq_false_iff] at hk
    rw [hok] at e
    rw [show (rd zObject m.Objects (i0:Int)).Kind=1 from e] at hk
    simp at hk
   have hadd:=add_of h (by omega) hoo hsp hnx hkind
   generalize hm':(⟨m.Objects.take i++o::m.Objects.drop i⟩:Map)=m' at hadd
   have hlen':m'.Objects.length=m.Objects.length+1:=by
    rw [← hm'];have:=hsp.le
    show (m.Objects.take i++o::m.Objects.drop i).length=_
    rw [List.length_append,List.length_cons,List.length_take,List.length_drop];omega
   have hfew':FewP m' 40:=⟨by omega,fun j hj=>by
    rcases (hadd.mem _).1 (ob_mem hj) with e | e
    ·rw [e,ho];exact hfew.refs i0 hi0
    ·obtain ⟨k,hk,e2⟩:=mem_ob e
     rw [← e2];exact hfew.refs k hk⟩
   refine shared_refs h rfl ?_
   show W.bind (Vm.F m) _ _
   refine W.bind_i (border_Segments_b hf (fun k=>absurd h k) fun _ L hL hll=>W.bind_i ?_)
   refine border_Segments_b (fit_ok hadd.ok') (fun k=>absurd hadd.ok' k) fun _ L' hL' hll'=>?_
   have eL:L'=L:=Ks.unique hL' ⟨hL.rise,fun s=>by rw [hL.mem,(some_iff ho h0 hadd).1]⟩
   subst eL
   have e1:L'.map (sg m')=L'.map (sg m):=List.map_congr_left fun s hs'=>hadd.sg ((hL'.mem s).1 hs')
   rw [e1]
   refine W.ite_i (fun k=>by simp at k) (fun _=>?_)
   refine W.up1 L'.length (fun _=>True) trivial (fun K x hx _ hK=>?_)
   refine W.dec_i (fun hlt=>?_) (fun hge=>?_)
   ·rw [List.length_map] at hlt
    have hx':x<L'.length:=by omega
    have ee:yn (rd zSegment (L'.map (sg m)) (x:Int)) (rd zSegment (L'.map (sg m)) (x:Int))=true:=eq_sg.2 ⟨rfl,rfl⟩
    have q1:rd ([]:Ids) (L'.map (owners m)) (x:Int)=owners m (kx L' x):=rd_mapk hx'
    have q2:rd ([]:Ids) (L'.map (owners m')) (x:Int)=owners m' (kx L' x):=rd_mapk hx'
    have hx1:0≤(x:Int)∧(x:Int)<((L'.map (sg m)).length:Int):=⟨by omega,by rw [List.length_map];omega⟩
    have hx2:0≤(x:Int)∧(x:Int)<((L'.map (owners m)).length:Int):=⟨by omega,by rw [List.length_map];omega⟩
    have hx3:0≤(x:Int)∧(x:Int)<((L'.map (owners m')).length:Int):=⟨by omega,by rw [List.length_map];omega⟩
    have o1:(owners m (kx L' x)).length≤100:=Nat.le_trans own_len (by omega)
    have o2:(owners m' (kx L' x)).length≤100:=Nat.le_trans own_len (by omega)
    rw [ee]
    refine W.req_i hx1 (W.req_i hx1 ?_)
    refine W.up2 (owners m (kx L' x)).length (fun k (was:Bool)=>was=true↔(ob m i0).Id∈(owners m (kx L' x)).take k) (by simp) (fun K2 k was hk2 hI hK2=>?_)
    refine W.req_i hx2 (W.req_i hx2 (W.dec_i (fun hlt2=>?_) (fun hge2=>?_)))
    ·rw [q1] at hlt2 ⊢
     have hk3:k<(owners m (kx L' x)).length:=by omega
     refine W.req_i (fun _=>hx2) (W.req_i (fun _=>⟨by omega,hlt2⟩) ?_)
     rw [w64_succ (by omega)]
     exact hK2 hk3 _ (has_l hk3 hI)
    ·rw [q1] at hge2
     have hk3:k=(owners m (kx L' x)).length:=by omega
     subst hk3
     rw [List.take_length] at hI
     refine W.up2 (owners m' (kx L' x)).length (fun k (is:Bool)=>is=true↔id∈(owners m' (kx L' x)).take k) (by simp) (fun K3 k is hk4 hI2 hK3=>?_)
     refine W.req_i hx3 (W.req_i hx3 (W.dec_i (fun hlt3=>?_) (fun hge3=>?_)))
     ·rw [q2] at hlt3 ⊢
      have hk5:k<(owners m' (kx L' x)).length:=by omega
      refine W.req_i (fun _=>hx3) (W.req_i (fun _=>hx3) (W.req_i (fun _=>⟨by omega,hlt3⟩) ?_))
      rw [w64_succ (by omega)]
      exact hK3 hk5 _ (has_l hk5 hI2)
     ·rw [q2] at hge3
      have hk5:k=(owners m' (kx L' x)).length:=by omega
      subst hk5
      rw [List.take_length] at hI2
      have hwi:was=is:=by
       rw [Bool.eq_iff_iff,hI,hI2]
       have:=(some_iff ho h0 hadd (s:=kx L' x)).2
       rw [hoid] at this
       exact this.symm
      subst hwi
      refine W.ite_i (fun k=>by simp at k) (fun _=>?_)
      show K (w64 ((x:Int)+1)) _
      rw [w64_succ (by omega)]
      exact hK hx' trivial
   ·refine W.bind_i (border_Check_b hf hfew (fun k=>absurd h k) fun _ V hV1 hV2 hV3=>W.bind_i ?_)
    refine W.ite_i (fun k=>?_) (fun k=>?_)
    ·refine border_Check_b40 (fit_ok hadd.ok') hfew' (fun k=>absurd hadd.ok' k) fun _ V' hV1' hV2' hV3'=>?_
     have hVn:V=[]:=by
      simp only [List.length_map,Bool.true_and,Bool.not_eq_true',decide_eq_false_iff_not] at k
      exact List.eq_nil_of_length_eq_zero (by omega)
     subst hVn
     have hVn':V'=[]:=by
      refine List.eq_nil_iff_forall_not_mem.2 fun ids hi=>?_
      obtain ⟨ids',hb⟩:=hadd.bad (fun s hs=>(some_iff ho h0 hadd).1.1 hs) ((hV2' ids).1 hi)
      have:=(hV2 ids').2 hb
      simp at this
     subst hVn'
     exact rfl
    ·simp only [List.length_map,Bool.true_and,Bool.not_eq_false',decide_eq_true_eq] at k
     show (true&&(decide ((0:Int)<((V.map viol).length:Int))||_))=true
     rw [List.length_map,decide_eq_true k];rfl
end Go.Gp.Gb
end
