/- Part. -/
import Derived.Test.YtfophhmfbofjiaaGreatP9x01
section
set_option linter.unusedVariables false
set_option linter.unusedSimpArgs false
set_option maxRecDepth 100000
namespace Go.Gp.Gb
open Go.Proofs
def Vv.c4 (x5:Point) (x6:Point):W Int:=W.bind (qs.F x5 x6) (fun r4=>W.ite (r4==(-1:Int)) (W.ret (5:Int)) (W.ite (r4==(0:Int)) (W.ret (1:Int)) (W.ret (0:Int))))
def Vv.c3 (x2:Segment) (x4:Point) (x5:Point):W Int:=W.bind (qs.F x2.B x4) (fun r5=>W.ite (decide (r5<(0:Int))) ((Vv.c4 x5) x2.B) ((Vv.c4 x5) x4))
def Vv.c2 (x2:Segment) (x3:Point) (x4:Point):W Int:=W.bind (qs.F x2.A x3) (fun r6=>W.ite (decide ((0:Int)<r6)) ((Vv.c3 x2 x4) x2.A) ((Vv.c3 x2 x4) x3))
def Vv.c1 (x1:Segment) (x2:Segment):W Int:=W.ite (Vg x1.A x1.B) (W.bind (geom_On.F x2 x1.A) (fun r1=>W.ite (!r1) (W.ret (0:Int)) (W.ite ((Vg x1.A x2.A)||(Vg x1.A x2.B)) (W.ret (1:Int)) (W.ret (2:Int))))) ((Vv.c2 x2) x1.A x1.B)
def Vv.F (s1:Segment) (t1:Segment):W Int:=W.ite (Vg t1.A t1.B) ((Vv.c1) t1 s1) ((Vv.c1) s1 t1)
theorem Vv.ok {s1:Segment} {t1:Segment} {Q:Int→Prop} (hF:Vv.F s1 t1 Q):Con Tryz.prog 57 [.tv kSegment s1,.tv kSegment t1] [] (fun ta rs'=>∃ (r:Int),Q r∧ta=.tv (kInt .i64) r∧rs'=[]):=by
 refine Con.i Tryz.func57 Tryz.ntmps57 R R (fun C=>?_)
 unfold Vv.F at hF
 refine At.seq (At.region (At.f R (jy R R R (ja R)) ?_))
 rintro _ _ ⟨g1,rfl,rfl⟩
 refine At.f R (jy R R R (ja R)) ?_
 rintro _ _ ⟨g2,rfl,rfl⟩
 refine At.d R R R R (jd (x:=(.tv (kInt .i64) (0:Int))) (ji _ _)) ?_
 refine At.done (At.vl ?_)
 refine At.cut (fun rs L=>∃ (x1:Segment) (x2:Segment),Vv.c1 x1 x2 Q∧rs=[.box g1 39 kSegment x1,.box g2 39 kSegment x2]∧L=mkL [(2,(.eq (.pointer (some ⟨g1,0,none⟩)))),(3,(.eq (.pointer (some ⟨g2,0,none⟩))))]) ?_ ?_
 ·refine At.seq (At.region (At.d R R R R (je (ja R) qe) ?_))
  refine At.d R R R R (jc (ja R) 0 R Jf ty_37) ?_
  refine At.d R R R R (je (ja R) ql) ?_
  refine At.d R R R R (jc (ja R) 0 R Jg ty_37) ?_
  refine At.d R R R R (jk (ja R) (ja R) (bin_eq jb3)) ?_
  refine At.done (At.vl ?_)
  refine At.cond (ja R) (fun hb11=>?_) (fun hb11=>?_)
  ·replace hF:=W.ite_t hb11 hF
   refine At.region (At.d R R R R (jc (ja R) 0 R (Sub.self kSegment) ty_39) ?_)
   refine At.d R R R R (jc (ja R) 1 R (Sub.self kSegment) ty_39) ?_
   refine At.f R (jz R R (ja R) 1 R (Sub.self kSegment) ty_39 (ja R)) ?_
   rintro _ _ ⟨rfl,rfl⟩
   refine At.f R (jz R R (ja R) 0 R (Sub.self kSegment) ty_39 (ja R)) ?_
   rintro _ _ ⟨rfl,rfl⟩
   refine At.done (At.vl ?_)
   refine At.w [1,0] R [(2,(.eq (.pointer (some ⟨g1,0,none⟩)))),(3,(.eq (.pointer (some ⟨g2,0,none⟩))))] ⟨R,R,trivial⟩ (At.r ⟨t1,s1,hF,R,R⟩)
  ·replace hF:=W.ite_f hb11 hF
   refine At.skip (At.vl ?_)
   refine At.w [1,0] R [(2,(.eq (.pointer (some ⟨g1,0,none⟩)))),(3,(.eq (.pointer (some ⟨g2,0,none⟩))))] ⟨R,R,trivial⟩ (At.r ⟨s1,t1,hF,R,R⟩)
 ·rintro _ _ ⟨x1,x2,hF,rfl,rfl⟩
  unfold Vv.c1 at hF
  refine At.seq (At.seq (At.region (At.d R R R R (je (ja R) qe) ?_)))
  refine At.d R R R R (jc (ja R) 0 R Jf ty_37) ?_
  refine At.d R R R R (je (ja R) ql) ?_
  refine At.d R R R R (jc (ja R) 0 R Jg ty_37) ?_
  refine At.d R R R R (jk (ja R) (ja R) (bin_eq jb3)) ?_
  refine At.done (At.vl ?_)
  refine At.cond (ja R) (fun hb2=>?_) (fun hb2=>?_)
  ·replace hF:=W.ite_t hb2 hF
   refine At.seq (At.block (At.seq (At.region (At.d R R R R (jc (ja R) 1 R (Sub.self kSegment) ty_39) ?_))))
   refine At.d R R R R (je (ja R) qe) ?_
   refine At.d R R R R (jc (ja R) 0 R Jf ty_37) ?_
   replace hF:=W.vq hF
   refine At.f R (jn R R jp (jq R en_93 (jf (ja R) (jf (ja R) jg))) (geom_On.ok hF) (by rintro _ _ ⟨r,_,rfl,_⟩;exact vp)) ?_
   rintro _ _ ⟨_,_,⟨r1,hF,rfl,rfl⟩,rfl,rfl⟩
   refine At.d R R R R (ve (ja R)) ?_
   refine At.d R R R R (jd (x:=(.tv kBool (!r1))) (ja R)) ?_
   refine At.done (At.vl ?_)
   refine At.cond (ja R) (fun hb3=>?_) (fun hb3=>?_)
   ·replace hF:=W.ite_t hb3 hF
    refine At.seq (At.region (At.d R R R R (jd (x:=(.tv (kInt .i64) (0:Int))) (ji _ _)) ?_))
    refine At.done (At.vl (At.ret ?_))
    refine At.q ?_
    refine At.vm (At.vm ?_)
    exact At.j rfl (rv_tmp rfl) [] rfl ⟨(0:Int),hF,rfl,rfl⟩
   ·replace hF:=W.ite_f hb3 hF
    refine At.seq (At.region (At.d R R R R (je (ja R) qe) ?_))
    refine At.d R R R R (jc (ja R) 0 R Jf ty_37) ?_
    refine At.d R R R R (je (ja R) qe) ?_
    refine At.d R R R R (jc (ja R) 1 R Jf ty_37) ?_
    refine At.d R R R R (jk (ja R) (ja R) (bin_eq jb3)) ?_
    refine At.d R R R R (jb (x:=(.tv kBool (Vg x1.A x2.A))) (ja R)) ?_
    refine At.vn R R R R (jx R) R (fun hg1=>(je (ja R) qe)) ?_
    refine At.vn R R R R (jx R) R (fun hg2=>(jc (jh R hg2) 0 R Jf ty_37)) ?_
    refine At.vn R R R R (jx R) R (fun hg3=>(je (ja R) ql)) ?_
    refine At.vn R R R R (jx R) R (fun hg4=>(jc (jh R hg4) 1 R Jg ty_37)) ?_
    refine At.vn R R R R (jx R) R (fun hg5=>(jk (jh R hg5) (jh R hg5) (bin_eq jb3))) ?_
    refine At.d R R R R (jm (ja R) (jl _) (ja R) vi) ?_
    refine At.d R R R R (jd (x:=(.tv kBool ((Vg x1.A x2.A)||(Vg x1.A x2.B)))) (ja R)) ?_
    refine At.done (At.vl ?_)
    refine At.cond (ja R) (fun hb4=>?_) (fun hb4=>?_)
    ·replace hF:=W.ite_t hb4 hF
     refine At.seq (At.region (At.d R R R R (jd (x:=(.tv (kInt .i64) (1:Int))) (ji _ _)) ?_))
     refine At.done (At.vl (At.ret ?_))
     refine At.q ?_
     refine At.vm (At.vm ?_)
     exact At.j rfl (rv_tmp rfl) [] rfl ⟨(1:Int),hF,rfl,rfl⟩
    ·replace hF:=W.ite_f hb4 hF
     refine At.skip ?_
     refine At.n ?_
     refine At.vl (At.seq (At.region (At.d R R R R (jd (x:=(.tv (kInt .i64) (2:Int))) (ji _ _)) ?_)))
     refine At.done (At.vl (At.ret (At.vm ?_)))
     exact At.j rfl (rv_tmp rfl) [] rfl ⟨(2:Int),hF,rfl,rfl⟩
  ·replace hF:=W.ite_f hb2 hF
   refine At.skip (At.vl ?_)
   refine At.cut (fun rs L=>∃ (x3:Point) (g9:Nat) (x4:Point) (g10:Nat),Vv.c2 x2 x3 x4 Q∧rs=[.box g2 39 kSegment x2,.box g9 37 kPoint x3,.box g10 37 kPoint x4]∧L=mkL [(3,(.eq (.pointer (some ⟨g2,0,none⟩)))),(5,(.eq (.pointer (some ⟨g9,0,none⟩)))),(6,(.eq (.pointer (some ⟨g10,0,none⟩))))]) ?_ ?_
   ·refine At.draw mixed [0,1] R [[],[]] (fun φ w hgd=>?_)
    refine AtH.take [0,1] hgd 0 R R R R (D':=#[Y,N,N,N,N,N,N,N]) (by kernel_rfl) (fun _ _ _ _ h=>h) R (je (ja R) qe) ?_
    refine AtH.take [0,1] hgd 1 R R R R (D':=#[Y,Y,N,N,N,N,N,N]) (by kernel_rfl) (fun _ _ _ _ h=>h) R (jc (ja R) 0 R Jf ty_37) ?_
    refine AtH.take [0,1] hgd 2 R R R R (D':=#[Y,Y,Y,N,N,N,N,N]) (by kernel_rfl) (fun _ _ _ _ h=>h) R (je (ja R) ql) ?_
    refine AtH.take [0,1] hgd 3 R R R R (D':=#[Y,Y,Y,Y,N,N,N,N]) (by kernel_rfl) (fun _ _ _ _ h=>h) R (jc (ja R) 0 R Jg ty_37) ?_
    refine AtH.all2 4 5 (by kernel_rfl) ?_ ?_
    ·refine AtH.f [(0,0),(1,1)] R R R R R R (eff_alloc R R R tz_37) (D':=#[Y,Y,Y,Y,Y,N,N,N]) (by kernel_rfl) (by kernel_rfl) ?_
     rintro _ _ ⟨g13,rfl,rfl⟩
     refine ⟨_,.inr ⟨R,flat_eq⟩,?_⟩
     refine AtH.all1 5 (by kernel_rfl) ?_
     refine AtH.f [(0,1),(1,2)] R R R R R R (eff_alloc R R R tz_37) (D':=#[Y,Y,Y,Y,Y,Y,N,N]) (by kernel_rfl) (by kernel_rfl) ?_
     rintro _ _ ⟨g14,rfl,rfl⟩
     refine ⟨_,.inr ⟨R,flat_eq⟩,?_⟩
     refine AtH.all1 6 (by kernel_rfl) ?_
     refine AtH.eff0 [(0,2),(1,3)] R R R R R (jz R R (ja R) 1 R (Sub.self kPoint) ty_37 (ja R)) (D':=#[Y,Y,Y,Y,Y,Y,Y,N]) (by kernel_rfl) (by kernel_rfl) ?_
     rintro _ _ ⟨rfl,rfl⟩
     refine AtH.all1 7 (by kernel_rfl) ?_
     refine AtH.eff0 [(0,2),(1,3)] R R R R R (jz R R (ja R) 0 R (Sub.self kPoint) ty_37 (ja R)) (D':=#[Y,Y,Y,Y,Y,Y,Y,Y]) (by kernel_rfl) (by kernel_rfl) ?_
     rintro _ _ ⟨rfl,rfl⟩
     refine AtH.done (by kernel_rfl) ?_
     refine At.vl ?_
     refine At.w [3,1,0] R [(3,(.eq (.pointer (some ⟨g2,0,none⟩)))),(5,(.eq (.pointer (some ⟨g13,0,none⟩)))),(6,(.eq (.pointer (some ⟨g14,0,none⟩))))] ⟨R,R,R,trivial⟩ (At.r ⟨x1.A,g13,x1.B,g14,hF,R,R⟩)
    ·refine AtH.f [(0,0),(1,1)] R R R R R R (eff_alloc R R R tz_37) (D':=#[Y,Y,Y,Y,N,Y,N,N]) (by kernel_rfl) (by kernel_rfl) ?_
     rintro _ _ ⟨g15,rfl,rfl⟩
     refine ⟨_,.inr ⟨R,flat_eq⟩,?_⟩
     refine AtH.all1 4 (by kernel_rfl) ?_
     refine AtH.f [(0,1),(1,2)] R R R R R R (eff_alloc R R R tz_37) (D':=#[Y,Y,Y,Y,Y,Y,N,N]) (by kernel_rfl) (by kernel_rfl) ?_
     rintro _ _ ⟨g16,rfl,rfl⟩
     refine ⟨_,.inr ⟨R,flat_eq⟩,?_⟩
     refine AtH.all1 6 (by kernel_rfl) ?_
     refine AtH.eff0 [(0,2),(1,3)] R R R R R (jz R R (ja R) 0 R (Sub.self kPoint) ty_37 (ja R)) (D':=#[Y,Y,Y,Y,Y,Y,Y,N]) (by kernel_rfl) (by kernel_rfl) ?_
     rintro _ _ ⟨rfl,rfl⟩
     refine AtH.all1 7 (by kernel_rfl) ?_
     refine AtH.eff0 [(0,2),(1,3)] R R R R R (jz R R (ja R) 1 R (Sub.self kPoint) ty_37 (ja R)) (D':=#[Y,Y,Y,Y,Y,Y,Y,Y]) (by kernel_rfl) (by kernel_rfl) ?_
     rintro _ _ ⟨rfl,rfl⟩
     refine AtH.done (by kernel_rfl) ?_
     refine At.vl ?_
     refine At.w [3,0,1] R [(3,(.eq (.pointer (some ⟨g2,0,none⟩)))),(5,(.eq (.pointer (some ⟨g16,0,none⟩)))),(6,(.eq (.pointer (some ⟨g15,0,none⟩))))] ⟨R,R,R,trivial⟩ (At.r ⟨x1.A,g16,x1.B,g15,hF,R,R⟩)
   ·rintro _ _ ⟨x3,g9,x4,g10,hF,rfl,rfl⟩
    unfold Vv.c2 at hF
    refine At.cut (fun rs L=>∃ (x5:Point),Vv.c3 x2 x4 x5 Q∧rs=[.box g2 39 kSegment x2,.box g9 37 kPoint x5,.box g10 37 kPoint x4]∧L=mkL [(3,(.eq (.pointer (some ⟨g2,0,none⟩)))),(5,(.eq (.pointer (some ⟨g9,0,none⟩)))),(6,(.eq (.pointer (some ⟨g10,0,none⟩))))]) ?_ ?_
    ·refine At.seq (At.region (At.d R R R R (je (ja R) qe) ?_))
     refine At.d R R R R (jc (ja R) 0 R Jf ty_37) ?_
     refine At.d R R R R (jc (ja R) 1 R (Sub.self kPoint) ty_37) ?_
     replace hF:=W.vq hF
     refine At.f R (jn R R jp (jq R en_89 (jf (ja R) (jf (ja R) jg))) (qs.ok hF) (by rintro _ _ ⟨r,_,rfl,_⟩;exact flat_int)) ?_
     rintro _ _ ⟨_,_,⟨r6,hF,rfl,rfl⟩,rfl,rfl⟩
     refine At.d R R R R (jk (ja R) (ji _ _) bin_gtr) ?_
     refine At.done (At.vl ?_)
     refine At.cond (ja R) (fun hb10=>?_) (fun hb10=>?_)
     ·replace hF:=W.ite_t hb10 hF
      refine At.region (At.d R R R R (je (ja R) qe) ?_)
      refine At.d R R R R (jc (ja R) 0 R Jf ty_37) ?_
      refine At.f R (jz R R (ja R) 1 R (Sub.self kPoint) ty_37 (ja R)) ?_
      rintro _ _ ⟨rfl,rfl⟩
      refine At.done (At.vl ?_)
      refine At.w [0,1,2] R [(3,(.eq (.pointer (some ⟨g2,0,none⟩)))),(5,(.eq (.pointer (some ⟨g9,0,none⟩)))),(6,(.eq (.pointer (some ⟨g10,0,none⟩))))] ⟨R,R,R,trivial⟩ (At.r ⟨x2.A,hF,R,R⟩)
     ·replace hF:=W.ite_f hb10 hF
      refine At.skip (At.vl ?_)
      refine At.w [0,1,2] R [(3,(.eq (.pointer (some ⟨g2,0,none⟩)))),(5,(.eq (.pointer (some ⟨g9,0,none⟩)))),(6,(.eq (.pointer (some ⟨g10,0,none⟩))))] ⟨R,R,R,trivial⟩ (At.r ⟨x3,hF,R,R⟩)
    ·rintro _ _ ⟨x5,hF,rfl,rfl⟩
     unfold Vv.c3 at hF
     refine At.cut (fun rs L=>∃ (x6:Point),Vv.c4 x5 x6 Q∧rs=[.box g9 37 kPoint x5,.box g10 37 kPoint x6]∧L=mkL [(5,(.eq (.pointer (some ⟨g9,0,none⟩)))),(6,(.eq (.pointer (some ⟨g10,0,none⟩))))]) ?_ ?_
     ·refine At.seq (At.region (At.d R R R R (je (ja R) ql) ?_))
      refine At.d R R R R (jc (ja R) 0 R Jg ty_37) ?_
      refine At.d R R R R (jc (ja R) 2 R (Sub.self kPoint) ty_37) ?_
      replace hF:=W.vq hF
      refine At.f R (jn R R jp (jq R en_89 (jf (ja R) (jf (ja R) jg))) (qs.ok hF) (by rintro _ _ ⟨r,_,rfl,_⟩;exact flat_int)) ?_
      rintro _ _ ⟨_,_,⟨r5,hF,rfl,rfl⟩,rfl,rfl⟩
      refine At.d R R R R (jk (ja R) (ji _ _) vg) ?_
      refine At.done (At.vl ?_)
      refine At.cond (ja R) (fun hb9=>?_) (fun hb9=>?_)
      ·replace hF:=W.ite_t hb9 hF
       refine At.region (At.d R R R R (je (ja R) ql) ?_)
       refine At.d R R R R (jc (ja R) 0 R Jg ty_37) ?_
       refine At.f R (jz R R (ja R) 2 R (Sub.self kPoint) ty_37 (ja R)) ?_
       rintro _ _ ⟨rfl,rfl⟩
       refine At.done (At.vl ?_)
       refine At.w [1,2] R [(5,(.eq (.pointer (some ⟨g9,0,none⟩)))),(6,(.eq (.pointer (some ⟨g10,0,none⟩))))] ⟨R,R,trivial⟩ (At.r ⟨x2.B,hF,R,R⟩)
      ·replace hF:=W.ite_f hb9 hF
       refine At.skip (At.vl ?_)
       refine At.w [1,2] R [(5,(.eq (.pointer (some ⟨g9,0,none⟩)))),(6,(.eq (.pointer (some ⟨g10,0,none⟩))))] ⟨R,R,trivial⟩ (At.r ⟨x4,hF,R,R⟩)
     ·rintro _ _ ⟨x6,hF,rfl,rfl⟩
      unfold Vv.c4 at hF
      refine At.seq (At.seq (At.region (At.d R R R R (jc (ja R) 0 R (Sub.self kPoint) ty_37) ?_)))
      refine At.d R R R R (jc (ja R) 1 R (Sub.self kPoint) ty_37) ?_
      replace hF:=W.vq hF
      refine At.f R (jn R R jp (jq R en_89 (jf (ja R) (jf (ja R) jg))) (qs.ok hF) (by rintro _ _ ⟨r,_,rfl,_⟩;exact flat_int)) ?_
      rintro _ _ ⟨_,_,⟨r4,hF,rfl,rfl⟩,rfl,rfl⟩
      refine At.done (At.vl (At.block (At.seq (At.region (At.d R R R R (jk (ja R) (ji _ _) bin_eql) ?_)))))
      refine At.d R R R R (jd (x:=(.tv kBool (r4==(-1:Int)))) (ja R)) ?_
      refine At.done (At.vl ?_)
      refine At.cond (ja R) (fun hb7=>?_) (fun hb7=>?_)
      ·replace hF:=W.ite_t hb7 hF
       refine At.seq (At.region (At.d R R R R (jd (x:=(.tv (kInt .i64) (5:Int))) (ji _ _)) ?_))
       refine At.done (At.vl (At.ret ?_))
       refine At.q ?_
       refine At.vm ?_
       exact At.j rfl (rv_tmp rfl) [] rfl ⟨(5:Int),hF,rfl,rfl⟩
      ·replace hF:=W.ite_f hb7 hF
       refine At.seq (At.region (At.d R R R R (jk (ja R) (ji _ _) bin_eql) ?_))
       refine At.d R R R R (jd (x:=(.tv kBool (r4==(0:Int)))) (ja R)) ?_
       refine At.done (At.vl ?_)
       refine At.cond (ja R) (fun hb8=>?_) (fun hb8=>?_)
       ·replace hF:=W.ite_t hb8 hF
        refine At.seq (At.region (At.d R R R R (jd (x:=(.tv (kInt .i64) (1:Int))) (ji _ _)) ?_))
        refine At.done (At.vl (At.ret ?_))
        refine At.q ?_
        refine At.vm ?_
        exact At.j rfl (rv_tmp rfl) [] rfl ⟨(1:Int),hF,rfl,rfl⟩
       ·replace hF:=W.ite_f hb8 hF
        refine At.skip ?_
        refine At.n ?_
        refine At.vl (At.seq (At.region (At.d R R R R (jd (x:=(.tv (kInt .i64) (0:Int))) (ji _ _)) ?_)))
        refine At.done (At.vl (At.ret ?_))
        exact At.j rfl (rv_tmp rfl) [] rfl ⟨(0:Int),hF,rfl,rfl⟩
def wq.c1 (x1:Segment) (x2:Segment):W Int:=W.ite (ja2 x1 x2) (W.ret (4:Int)) (W.bind (W.ite (!((Vg x1.A x1.B)||(Vg x2.A x2.B))) (qg.F x1.A x1.B x2.A) (W.ret (0:Int))) (fun r4=>W.bind (W.ite ((!((Vg x1.A x1.B)||(Vg x2.A x2.B)))&&(r4==(0:Int))) (qg.F x1.A x1.B x2.B) (W.ret (0:Int))) (fun r5=>W.ite (((Vg x1.A x1.B)||(Vg x2.A x2.B))||((r4==(0:Int))&&(r5==(0:Int)))) (W.bind (Vv.F x1 x2) (fun r6=>W.ret r6)) (W.bind (qg.F x1.A x1.B x2.A) (fun r7=>W.bind (qg.F x1.A x1.B x2.B) (fun r8=>W.bind (qg.F x2.A x2.B x1.A) (fun r9=>W.bind (qg.F x2.A x2.B x1.B) (fun r10=>W.ite ((decide ((0:Int)<(w64 (r7*r8))))||(decide ((0:Int)<(w64 (r9*r10))))) (W.ret (0:Int)) (W.ite ((decide ((w64 (r7*r8))<(0:Int)))&&(decide ((w64 (r9*r10))<(0:Int)))) (W.ret (3:Int)) (W.ite (((w64 (r7*r8))==(0:Int))&&((w64 (r9*r10))==(0:Int))) (W.ret (1:Int)) (W.ret (2:Int))))))))))))
def wq.F (s1:Segment) (t1:Segment):W Int:=W.bind (we.F ([s1.A,s1.B,t1.A,t1.B]:List Point)) (fun r1=>W.ite (!r1) (W.ret (0:Int)) (W.bind (yo.F s1) (fun r11=>W.bind (yo.F t1) (fun r12=>(wq.c1) r11 r12))))
theorem wq.ok {s1:Segment} {t1:Segment} {Q:Int→Prop} (hF:wq.F s1 t1 Q):Con Tryz.prog 23 [.tv kSegment s1,.tv kSegment t1] [] (fun ta rs'=>∃ (r:Int),Q r∧ta=.tv (kInt .i64) r∧rs'=[]):=by
 refine Con.i Tryz.func23 Tryz.ntmps23 R R (fun C=>?_)
 unfold wq.F at hF
 refine At.seq (At.region (At.f R (jy R R R (ja R)) ?_))
 rintro _ _ ⟨g1,rfl,rfl⟩
 refine At.f R (jy R R R (ja R)) ?_
 rintro _ _ ⟨g2,rfl,rfl⟩
 refine At.d R R R R (jd (x:=(.tv (kInt .i64) (0:Int))) (ji _ _)) ?_
 refine At.done (At.vl (At.seq (At.seq (At.region (At.d R R R R (je (ja R) qe) ?_)))))
 refine At.d R R R R (jc (ja R) 1 R Jf ty_37) ?_
 refine At.d R R R R (je (ja R) ql) ?_
 refine At.d R R R R (jc (ja R) 1 R Jg ty_37) ?_
 refine At.d R R R R (je (ja R) qe) ?_
 refine At.d R R R R (jc (ja R) 0 R Jf ty_37) ?_
 refine At.d R R R R (je (ja R) ql) ?_
 refine At.d R R R R (jc (ja R) 0 R Jg ty_37) ?_
 refine At.f R (vc R R R (os:=[.tmp 10,.tmp 12,.tmp 14,.tmp 16]) R sl_68 (xs:=([s1.A,s1.B,t1.A,t1.B]:List Point)) (jf (ja R) (jf (ja R) (jf (ja R) (jf (ja R) jg)))) R R) ?_
 rintro _ _ ⟨v1,rfl,rfl⟩
 replace hF:=W.vq hF
 refine At.f R (jn R R (lends_row 0 17 R R jp) (jq R en_54 (jf (ja R) jg)) (we.ok hF) (by rintro _ _ ⟨r,_,rfl,_⟩;exact vp)) ?_
 rintro _ _ ⟨_,_,⟨r1,hF,rfl,rfl⟩,rfl,rfl⟩
 refine At.d R R R R (ve (ja R)) ?_
 refine At.done (At.vl ?_)
 refine At.cond (ja R) (fun hb1=>?_) (fun hb1=>?_)
 ·replace hF:=W.ite_t hb1 hF
  refine At.seq (At.region (At.d R R R R (jd (x:=(.tv (kInt .i64) (0:Int))) (ji _ _)) ?_))
  refine At.done (At.vl (At.ret (At.vm ?_)))
  exact At.j rfl (rv_tmp rfl) [] rfl ⟨(0:Int),hF,rfl,rfl⟩
 ·replace hF:=W.ite_f hb1 hF
  refine At.skip (At.vl ?_)
  refine At.cut (fun rs L=>∃ (x1:Segment) (x2:Segment),wq.c1 x1 x2 Q∧rs=[.box g1 39 kSegment x1,.box g2 39 kSegment x2]∧L=mkL [(2,(.eq (.pointer (some ⟨g1,0,none⟩)))),(3,(.eq (.pointer (some ⟨g2,0,none⟩))))]) ?_ ?_
  ·refine At.draw mixed [0,1,2] R [[],[5],[4]] (fun φ w hgd=>?_)
   replace hF:=W.vq hF
   refine AtH.take [0,1,2] hgd 0 R R R R (D':=#[Y,N,N,N,N,N]) (by kernel_rfl) (fun _ _ _ _ h=>h) R (jc (ja R) 2 R (Sub.self kSegment) ty_39) ?_
   refine AtH.take [0,1] hgd 2 R R R R (D':=#[Y,N,Y,N,N,N]) (by kernel_rfl) (fun _ _ _ _ h=>h) R (jc (ja R) 1 R (Sub.self kSegment) ty_39) ?_
   refine AtH.all1 1 (by kernel_rfl) ?_
   refine AtH.f [(0,0),(1,1),(2,2)] R R R R R R (jn R R jp (jq R en_55 (jf (ja R) jg)) (yo.ok hF) (by rintro _ _ ⟨r,_,rfl,_⟩;exact (flat_tv jb8))) (D':=#[Y,Y,Y,N,N,N]) (by kernel_rfl) (by kernel_rfl) ?_
   rintro _ _ ⟨_,_,⟨r11,hF,rfl,rfl⟩,rfl,rfl⟩
   refine ⟨_,.inr ⟨R,(flat_tv jb8)⟩,?_⟩
   replace hF:=W.vq hF
   refine AtH.all1 3 (by kernel_rfl) ?_
   refine AtH.f [(0,0),(1,1),(2,2)] R R R R R R (jn R R jp (jq R en_55 (jf (ja R) jg)) (yo.ok hF) (by rintro _ _ ⟨r,_,rfl,_⟩;exact (flat_tv jb8))) (D':=#[Y,Y,Y,Y,N,N]) (by kernel_rfl) (by kernel_rfl) ?_
   rintro _ _ ⟨_,_,⟨r12,hF,rfl,rfl⟩,rfl,rfl⟩
   refine ⟨_,.inr ⟨R,(flat_tv jb8)⟩,?_⟩
   refine AtH.all1 4 (by kernel_rfl) ?_
   refine AtH.eff0 [(0,0),(1,1)] R R R R R (jz R R (ja R) 2 R (Sub.self kSegment) ty_39 (ja R)) (D':=#[Y,Y,Y,Y,Y,N]) (by kernel_rfl) (by kernel_rfl) ?_
   rintro _ _ ⟨rfl,rfl⟩
   refine AtH.all1 5 (by kernel_rfl) ?_
   refine AtH.eff0 [(0,0)] R R R R R (jz R R (ja R) 1 R (Sub.self kSegment) ty_39 (ja R)) (D':=#[Y,Y,Y,Y,Y,Y]) (by kernel_rfl) (by kernel_rfl) ?_
   rintro _ _ ⟨rfl,rfl⟩
   refine AtH.done (by kernel_rfl) ?_
   refine At.vl ?_
   refine At.w [2,1] R [(2,(.eq (.pointer (some ⟨g1,0,none⟩)))),(3,(.eq (.pointer (some ⟨g2,0,none⟩))))] ⟨R,R,trivial⟩ (At.r ⟨r11,r12,hF,R,R⟩)
  ·rintro _ _ ⟨x1,x2,hF,rfl,rfl⟩
   unfold wq.c1 at hF
   refine At.seq (At.block (At.seq (At.region (At.d R R R R (jc (ja R) 0 R (Sub.self kSegment) ty_39) ?_))))
   refine At.d R R R R (jc (ja R) 1 R (Sub.self kSegment) ty_39) ?_
   refine At.d R R R R (jk (ja R) (ja R) (bin_eq eqty_39)) ?_
   refine At.d R R R R (jd (x:=(.tv kBool (ja2 x1 x2))) (ja R)) ?_
   refine At.done (At.vl ?_)
   refine At.cond (ja R) (fun hb2=>?_) (fun hb2=>?_)
   ·replace hF:=W.ite_t hb2 hF
    refine At.seq (At.region (At.d R R R R (jd (x:=(.tv (kInt .i64) (4:Int))) (ji _ _)) ?_))
    refine At.done (At.vl (At.ret ?_))
    refine At.q ?_
    refine At.vm ?_
    exact At.j rfl (rv_tmp rfl) [] rfl ⟨(4:Int),hF,rfl,rfl⟩
   ·replace hF:=W.ite_f hb2 hF
    refine At.seq (At.region (At.d R R R R (je (ja R) qe) ?_))
    refine At.d R R R R (jc (ja R) 0 R Jf ty_37) ?_
    refine At.d R R R R (je (ja R) ql) ?_
    refine At.d R R R R (jc (ja R) 0 R Jg ty_37) ?_
    refine At.d R R R R (jk (ja R) (ja R) (bin_eq jb3)) ?_
    refine At.d R R R R (jb (x:=(.tv kBool (Vg x1.A x1.B))) (ja R)) ?_
    refine At.vn R R R R (jx R) R (fun hg1=>(je (ja R) qe)) ?_
    refine At.vn R R R R (jx R) R (fun hg2=>(jc (jh R hg2) 1 R Jf ty_37)) ?_
    refine At.vn R R R R (jx R) R (fun hg3=>(je (ja R) ql)) ?_
    refine At.vn R R R R (jx R) R (fun hg4=>(jc (jh R hg4) 1 R Jg ty_37)) ?_
    refine At.vn R R R R (jx R) R (fun hg5=>(jk (jh R hg5) (jh R hg5) (bin_eq jb3))) ?_
    refine At.d R R R R (jm (ja R) (jl _) (ja R) vi) ?_
    refine At.d R R R R (jb (x:=(.tv kBool ((Vg x1.A x1.B)||(Vg x2.A x2.B)))) (ja R)) ?_
    refine At.vn R R R R (jx R) R (fun hg6=>(je (ja R) qe)) ?_
    refine At.vn R R R R (jx R) R (fun hg7=>(jc (jh R hg7) 0 R Jf ty_37)) ?_
    refine At.vn R R R R (jx R) R (fun hg8=>(je (ja R) ql)) ?_
    refine At.vn R R R R (jx R) R (fun hg9=>(jc (jh R hg9) 0 R Jg ty_37)) ?_
    refine At.vn R R R R (jx R) R (fun hg10=>(je (ja R) qe)) ?_
    refine At.vn R R R R (jx R) R (fun hg11=>(jc (jh R hg11) 1 R Jf ty_37)) ?_
    replace hF:=W.vq hF
    refine At.effG R R R R (jx R) hF (fun r=>.tv (kInt .i64) r) (fun hg12 hF=>vr (jn R R jp (jq R en_56 (jf (jh R hg12) (jf (jh R hg12) (jf (jh R hg12) jg)))) (qg.ok hF) (by rintro _ _ ⟨r,_,rfl,_⟩;exact flat_int)) (by rintro _ _ ⟨_,_,⟨r,hF,rfl,rfl⟩,rfl,rfl⟩;exact ⟨r,hF,R,R⟩)) (fun r4 hF=>?_)
    refine At.vn R R R R (jx R) R (fun hg13=>(jk (jh R hg13) (ji _ _) bin_eql)) ?_
    refine At.vn R R R R (jx R) R (fun hg14=>(jb (x:=(.tv kBool (r4==(0:Int)))) (jh R hg14))) ?_
    refine At.vn R R R R (ju R) R (fun hg15=>(je (ja R) qe)) ?_
    refine At.vn R R R R (ju R) R (fun hg16=>(jc (jh R hg16) 0 R Jf ty_37)) ?_
    refine At.vn R R R R (ju R) R (fun hg17=>(je (ja R) ql)) ?_
    refine At.vn R R R R (ju R) R (fun hg18=>(jc (jh R hg18) 0 R Jg ty_37)) ?_
    refine At.vn R R R R (ju R) R (fun hg19=>(je (ja R) ql)) ?_
    refine At.vn R R R R (ju R) R (fun hg20=>(jc (jh R hg20) 1 R Jg ty_37)) ?_
    replace hF:=W.vq hF
    refine At.effG R R R R (ju R) hF (fun r=>.tv (kInt .i64) r) (fun hg21 hF=>vr (jn R R jp (jq R en_56 (jf (jh R hg21) (jf (jh R hg21) (jf (jh R hg21) jg)))) (qg.ok hF) (by rintro _ _ ⟨r,_,rfl,_⟩;exact flat_int)) (by rintro _ _ ⟨_,_,⟨r,hF,rfl,rfl⟩,rfl,rfl⟩;exact ⟨r,hF,R,R⟩)) (fun r5 hF=>?_)
    refine At.vn R R R R (ju R) R (fun hg22=>(jk (jh R hg22) (ji _ _) bin_eql)) ?_
    refine At.vn R R R R (jx R) R (fun hg23=>(jm (jh R hg23) (ja R) (jl _) (pick_andG (and_of hg23)))) ?_
    refine At.d R R R R (jm (ja R) (jl _) (ja R) vi) ?_
    refine At.d R R R R (jd (x:=(.tv kBool (((Vg x1.A x1.B)||(Vg x2.A x2.B))||((r4==(0:Int))&&(r5==(0:Int)))))) (ja R)) ?_
    refine At.done (At.vl ?_)
    refine At.cond (ja R) (fun hb3=>?_) (fun hb3=>?_)
    ·replace hF:=W.ite_t hb3 hF
     refine At.seq (At.region (At.d R R R R (jc (ja R) 0 R (Sub.self kSegment) ty_39) ?_))
     refine At.d R R R R (jc (ja R) 1 R (Sub.self kSegment) ty_39) ?_
     replace hF:=W.vq hF
     refine At.f R (jn R R jp (jq R en_57 (jf (ja R) (jf (ja R) jg))) (Vv.ok hF) (by rintro _ _ ⟨r,_,rfl,_⟩;exact flat_int)) ?_
     rintro _ _ ⟨_,_,⟨r6,hF,rfl,rfl⟩,rfl,rfl⟩
     refine At.d R R R R (jd (x:=(.tv (kInt .i64) r6)) (ja R)) ?_
     refine At.done (At.vl (At.ret ?_))
     refine At.q ?_
     refine At.vm ?_
     exact At.j rfl (rv_tmp rfl) [] rfl ⟨r6,hF,rfl,rfl⟩
    ·replace hF:=W.ite_f hb3 hF
     refine At.skip ?_
     refine At.n ?_
     refine At.vl (At.seq ?_)
     refine At.draw mixed [0,1] R [[],[]] (fun φ w hgd=>?_)
     replace hF:=W.vq hF
     refine AtH.take [0,1] hgd 0 R R R R (D':=#[Y,N,N,N,N,N,N,N,N,N,N,N,N,N,N,N]) (by kernel_rfl) (fun _ _ _ _ h=>h) R (je (ja R) qe) ?_
     refine AtH.take [0,1] hgd 1 R R R R (D':=#[Y,Y,N,N,N,N,N,N,N,N,N,N,N,N,N,N]) (by kernel_rfl) (fun _ _ _ _ h=>h) R (jc (ja R) 0 R Jf ty_37) ?_
     refine AtH.take [0,1] hgd 2 R R R R (D':=#[Y,Y,Y,N,N,N,N,N,N,N,N,N,N,N,N,N]) (by kernel_rfl) (fun _ _ _ _ h=>h) R (je (ja R) ql) ?_
     refine AtH.take [0,1] hgd 3 R R R R (D':=#[Y,Y,Y,Y,N,N,N,N,N,N,N,N,N,N,N,N]) (by kernel_rfl) (fun _ _ _ _ h=>h) R (jc (ja R) 0 R Jg ty_37) ?_
     refine AtH.take [0,1] hgd 4 R R R R (D':=#[Y,Y,Y,Y,Y,N,N,N,N,N,N,N,N,N,N,N]) (by kernel_rfl) (fun _ _ _ _ h=>h) R (je (ja R) qe) ?_
     refine AtH.take [0,1] hgd 5 R R R R (D':=#[Y,Y,Y,Y,Y,Y,N,N,N,N,N,N,N,N,N,N]) (by kernel_rfl) (fun _ _ _ _ h=>h) R (jc (ja R) 1 R Jf ty_37) ?_
     refine AtH.take [0,1] hgd 7 R R R R (D':=#[Y,Y,Y,Y,Y,Y,N,Y,N,N,N,N,N,N,N,N]) (by kernel_rfl) (fun _ _ _ _ h=>h) R (je (ja R) qe) ?_
     refine AtH.take [0,1] hgd 8 R R R R (D':=#[Y,Y,Y,Y,Y,Y,N,Y,Y,N,N,N,N,N,N,N]) (by kernel_rfl) (fun _ _ _ _ h=>h) R (jc (ja R) 0 R Jf ty_37) ?_
     refine AtH.take [0,1] hgd 9 R R R R (D':=#[Y,Y,Y,Y,Y,Y,N,Y,Y,Y,N,N,N,N,N,N]) (by kernel_rfl) (fun _ _ _ _ h=>h) R (je (ja R) ql) ?_
     refine AtH.take [0,1] hgd 10 R R R R (D':=#[Y,Y,Y,Y,Y,Y,N,Y,Y,Y,Y,N,N,N,N,N]) (by kernel_rfl) (fun _ _ _ _ h=>h) R (jc (ja R) 0 R Jg ty_37) ?_
     refine AtH.take [0,1] hgd 11 R R R R (D':=#[Y,Y,Y,Y,Y,Y,N,Y,Y,Y,Y,Y,N,N,N,N]) (by kernel_rfl) (fun _ _ _ _ h=>h) R (je (ja R) ql) ?_
     refine AtH.take [0,1] hgd 12 R R R R (D':=#[Y,Y,Y,Y,Y,Y,N,Y,Y,Y,Y,Y,Y,N,N,N]) (by kernel_rfl) (fun _ _ _ _ h=>h) R (jc (ja R) 1 R Jg ty_37) ?_
     refine AtH.all1 6 (by kernel_rfl) ?_
     refine AtH.f [(0,0),(1,1)] R R R R R R (jn R R jp (jq R en_56 (jf (ja R) (jf (ja R) (jf (ja R) jg)))) (qg.ok hF) (by rintro _ _ ⟨r,_,rfl,_⟩;exact flat_int)) (D':=#[Y,Y,Y,Y,Y,Y,Y,Y,Y,Y,Y,Y,Y,N,N,N]) (by kernel_rfl) (by kernel_rfl) ?_
     rintro _ _ ⟨_,_,⟨r7,hF,rfl,rfl⟩,rfl,rfl⟩
     refine ⟨_,.inr ⟨R,flat_int⟩,?_⟩
     replace hF:=W.vq hF
     refine AtH.all1 13 (by kernel_rfl) ?_
     refine AtH.f [(0,0),(1,1)] R R R R R R (jn R R jp (jq R en_56 (jf (ja R) (jf (ja R) (jf (ja R) jg)))) (qg.ok hF) (by rintro _ _ ⟨r,_,rfl,_⟩;exact flat_int)) (D':=#[Y,Y,Y,Y,Y,Y,Y,Y,Y,Y,Y,Y,Y,Y,N,N]) (by kernel_rfl) (by kernel_rfl) ?_
     rintro _ _ ⟨_,_,⟨r8,hF,rfl,rfl⟩,rfl,rfl⟩
     refine ⟨_,.inr ⟨R,flat_int⟩,?_⟩
     refine AtH.take [0,1] hgd 14 R R R R (D':=#[Y,Y,Y,Y,Y,Y,Y,Y,Y,Y,Y,Y,Y,Y,Y,N]) (by kernel_rfl) (fun _ _ _ _ h=>h) R (jd (x:=(.tv (kInt .i64) r7)) (ja R)) ?_
     refine AtH.take [0,1] hgd 15 R R R R (D':=#[Y,Y,Y,Y,Y,Y,Y,Y,Y,Y,Y,Y,Y,Y,Y,Y]) (by kernel_rfl) (fun _ _ _ _ h=>h) R (jd (x:=(.tv (kInt .i64) r8)) (ja R)) ?_
     refine AtH.done (by kernel_rfl) ?_
     refine At.vl (At.seq ?_)
     refine At.draw mixed [0,1] R [[],[]] (fun φ w hgd=>?_)
     replace hF:=W.vq hF
     refine AtH.take [0,1] hgd 0 R R R R (D':=#[Y,N,N,N,N,N,N,N,N,N,N,N,N,N,N,N]) (by kernel_rfl) (fun _ _ _ _ h=>h) R (je (ja R) qe) ?_
     refine AtH.take [0,1] hgd 1 R R R R (D':=#[Y,Y,N,N,N,N,N,N,N,N,N,N,N,N,N,N]) (by kernel_rfl) (fun _ _ _ _ h=>h) R (jc (ja R) 1 R Jf ty_37) ?_
     refine AtH.take [0,1] hgd 2 R R R R (D':=#[Y,Y,Y,N,N,N,N,N,N,N,N,N,N,N,N,N]) (by kernel_rfl) (fun _ _ _ _ h=>h) R (je (ja R) ql) ?_
     refine AtH.take [0,1] hgd 3 R R R R (D':=#[Y,Y,Y,Y,N,N,N,N,N,N,N,N,N,N,N,N]) (by kernel_rfl) (fun _ _ _ _ h=>h) R (jc (ja R) 1 R Jg ty_37) ?_
     refine AtH.take [0,1] hgd 4 R R R R (D':=#[Y,Y,Y,Y,Y,N,N,N,N,N,N,N,N,N,N,N]) (by kernel_rfl) (fun _ _ _ _ h=>h) R (je (ja R) qe) ?_
     refine AtH.take [0,1] hgd 5 R R R R (D':=#[Y,Y,Y,Y,Y,Y,N,N,N,N,N,N,N,N,N,N]) (by kernel_rfl) (fun _ _ _ _ h=>h) R (jc (ja R) 0 R Jf ty_37) ?_
     refine AtH.take [0,1] hgd 7 R R R R (D':=#[Y,Y,Y,Y,Y,Y,N,Y,N,N,N,N,N,N,N,N]) (by kernel_rfl) (fun _ _ _ _ h=>h) R (je (ja R) qe) ?_
     refine AtH.take [0,1] hgd 8 R R R R (D':=#[Y,Y,Y,Y,Y,Y,N,Y,Y,N,N,N,N,N,N,N]) (by kernel_rfl) (fun _ _ _ _ h=>h) R (jc (ja R) 1 R Jf ty_37) ?_
     refine AtH.take [0,1] hgd 9 R R R R (D':=#[Y,Y,Y,Y,Y,Y,N,Y,Y,Y,N,N,N,N,N,N]) (by kernel_rfl) (fun _ _ _ _ h=>h) R (je (ja R) ql) ?_
     refine AtH.take [0,1] hgd 10 R R R R (D':=#[Y,Y,Y,Y,Y,Y,N,Y,Y,Y,Y,N,N,N,N,N]) (by kernel_rfl) (fun _ _ _ _ h=>h) R (jc (ja R) 1 R Jg ty_37) ?_
     refine AtH.take [0,1] hgd 11 R R R R (D':=#[Y,Y,Y,Y,Y,Y,N,Y,Y,Y,Y,Y,N,N,N,N]) (by kernel_rfl) (fun _ _ _ _ h=>h) R (je (ja R) ql) ?_
     refine AtH.take [0,1] hgd 12 R R R R (D':=#[Y,Y,Y,Y,Y,Y,N,Y,Y,Y,Y,Y,Y,N,N,N]) (by kernel_rfl) (fun _ _ _ _ h=>h) R (jc (ja R) 0 R Jg ty_37) ?_
     refine AtH.all1 6 (by kernel_rfl) ?_
     refine AtH.f [(0,0),(1,1)] R R R R R R (jn R R jp (jq R en_56 (jf (ja R) (jf (ja R) (jf (ja R) jg)))) (qg.ok hF) (by rintro _ _ ⟨r,_,rfl,_⟩;exact flat_int)) (D':=#[Y,Y,Y,Y,Y,Y,Y,Y,Y,Y,Y,Y,Y,N,N,N]) (by kernel_rfl) (by kernel_rfl) ?_
     rintro _ _ ⟨_,_,⟨r9,hF,rfl,rfl⟩,rfl,rfl⟩
     refine ⟨_,.inr ⟨R,flat_int⟩,?_⟩
     replace hF:=W.vq hF
     refine AtH.all1 13 (by kernel_rfl) ?_
     refine AtH.f [(0,0),(1,1)] R R R R R R (jn R R jp (jq R en_56 (jf (ja R) (jf (ja R) (jf (ja R) jg)))) (qg.ok hF) (by rintro _ _ ⟨r,_,rfl,_⟩;exact flat_int)) (D':=#[Y,Y,Y,Y,Y,Y,Y,Y,Y,Y,Y,Y,Y,Y,N,N]) (by kernel_rfl) (by kernel_rfl) ?_
     rintro _ _ ⟨_,_,⟨r10,hF,rfl,rfl⟩,rfl,rfl⟩
     refine ⟨_,.inr ⟨R,flat_int⟩,?_⟩
     refine AtH.take [0,1] hgd 14 R R R R (D':=#[Y,Y,Y,Y,Y,Y,Y,Y,Y,Y,Y,Y,Y,Y,Y,N]) (by kernel_rfl) (fun _ _ _ _ h=>h) R (jd (x:=(.tv (kInt .i64) r9)) (ja R)) ?_
     refine AtH.take [0,1] hgd 15 R R R R (D':=#[Y,Y,Y,Y,Y,Y,Y,Y,Y,Y,Y,Y,Y,Y,Y,Y]) (by kernel_rfl) (fun _ _ _ _ h=>h) R (jd (x:=(.tv (kInt .i64) r10)) (ja R)) ?_
     refine AtH.done (by kernel_rfl) ?_
     refine At.vl (At.seq (At.block (At.seq (At.region (At.d R R R R (jb (x:=(.tv (kInt .i64) r7)) (ja R)) ?_)))))
     refine At.d R R R R (jb (x:=(.tv (kInt .i64) r8)) (ja R)) ?_
     refine At.d R R R R (jk (ja R) (ja R) bin_mul) ?_
     refine At.d R R R R (jk (ja R) (ji _ _) bin_gtr) ?_
     refine At.d R R R R (jb (x:=(.tv kBool (decide ((0:Int)<(w64 (r7*r8)))))) (ja R)) ?_
     refine At.vn R R R R (jx R) R (fun hg24=>(jb (x:=(.tv (kInt .i64) r9)) (ja R))) ?_
     refine At.vn R R R R (jx R) R (fun hg25=>(jb (x:=(.tv (kInt .i64) r10)) (ja R))) ?_
     refine At.vn R R R R (jx R) R (fun hg26=>(jk (jh R hg26) (jh R hg26) bin_mul)) ?_
     refine At.vn R R R R (jx R) R (fun hg27=>(jk (jh R hg27) (ji _ _) bin_gtr)) ?_
     refine At.d R R R R (jm (ja R) (jl _) (ja R) vi) ?_
     refine At.d R R R R (jd (x:=(.tv kBool ((decide ((0:Int)<(w64 (r7*r8))))||(decide ((0:Int)<(w64 (r9*r10))))))) (ja R)) ?_
     refine At.done (At.vl ?_)
     refine At.cond (ja R) (fun hb4=>?_) (fun hb4=>?_)
     ·replace hF:=W.ite_t hb4 hF
      refine At.seq (At.region (At.d R R R R (jd (x:=(.tv (kInt .i64) (0:Int))) (ji _ _)) ?_))
      refine At.done (At.vl (At.ret ?_))
      refine At.q ?_
      refine At.vm ?_
      exact At.j rfl (rv_tmp rfl) [] rfl ⟨(0:Int),hF,rfl,rfl⟩
     ·replace hF:=W.ite_f hb4 hF
      refine At.seq (At.region (At.d R R R R (jb (x:=(.tv (kInt .i64) r7)) (ja R)) ?_))
      refine At.d R R R R (jb (x:=(.tv (kInt .i64) r8)) (ja R)) ?_
      refine At.d R R R R (jk (ja R) (ja R) bin_mul) ?_
      refine At.d R R R R (jk (ja R) (ji _ _) vg) ?_
      refine At.d R R R R (jb (x:=(.tv kBool (decide ((w64 (r7*r8))<(0:Int))))) (ja R)) ?_
      refine At.vn R R R R (jw R) R (fun hg28=>(jb (x:=(.tv (kInt .i64) r9)) (ja R))) ?_
      refine At.vn R R R R (jw R) R (fun hg29=>(jb (x:=(.tv (kInt .i64) r10)) (ja R))) ?_
      refine At.vn R R R R (jw R) R (fun hg30=>(jk (jh R hg30) (jh R hg30) bin_mul)) ?_
      refine At.vn R R R R (jw R) R (fun hg31=>(jk (jh R hg31) (ji _ _) vg)) ?_
      refine At.d R R R R (jm (ja R) (ja R) (jl _) vh) ?_
      refine At.d R R R R (jd (x:=(.tv kBool ((decide ((w64 (r7*r8))<(0:Int)))&&(decide ((w64 (r9*r10))<(0:Int)))))) (ja R)) ?_
      refine At.done (At.vl ?_)
      refine At.cond (ja R) (fun hb5=>?_) (fun hb5=>?_)
      ·replace hF:=W.ite_t hb5 hF
       refine At.seq (At.region (At.d R R R R (jd (x:=(.tv (kInt .i64) (3:Int))) (ji _ _)) ?_))
       refine At.done (At.vl (At.ret ?_))
       refine At.q ?_
       refine At.vm ?_
       exact At.j rfl (rv_tmp rfl) [] rfl ⟨(3:Int),hF,rfl,rfl⟩
      ·replace hF:=W.ite_f hb5 hF
       refine At.seq (At.region (At.d R R R R (jb (x:=(.tv (kInt .i64) r7)) (ja R)) ?_))
       refine At.d R R R R (jb (x:=(.tv (kInt .i64) r8)) (ja R)) ?_
       refine At.d R R R R (jk (ja R) (ja R) bin_mul) ?_
       refine At.d R R R R (jk (ja R) (ji _ _) bin_eql) ?_
       refine At.d R R R R (jb (x:=(.tv kBool ((w64 (r7*r8))==(0:Int)))) (ja R)) ?_
       refine At.vn R R R R (jw R) R (fun hg32=>(jb (x:=(.tv (kInt .i64) r9)) (ja R))) ?_
       refine At.vn R R R R (jw R) R (fun hg33=>(jb (x:=(.tv (kInt .i64) r10)) (ja R))) ?_
       refine At.vn R R R R (jw R) R (fun hg34=>(jk (jh R hg34) (jh R hg34) bin_mul)) ?_
       refine At.vn R R R R (jw R) R (fun hg35=>(jk (jh R hg35) (ji _ _) bin_eql)) ?_
       refine At.d R R R R (jm (ja R) (ja R) (jl _) vh) ?_
       refine At.d R R R R (jd (x:=(.tv kBool (((w64 (r7*r8))==(0:Int))&&((w64 (r9*r10))==(0:Int))))) (ja R)) ?_
       refine At.done (At.vl ?_)
       refine At.cond (ja R) (fun hb6=>?_) (fun hb6=>?_)
       ·replace hF:=W.ite_t hb6 hF
        refine At.seq (At.region (At.d R R R R (jd (x:=(.tv (kInt .i64) (1:Int))) (ji _ _)) ?_))
        refine At.done (At.vl (At.ret ?_))
        refine At.q ?_
        refine At.vm ?_
        exact At.j rfl (rv_tmp rfl) [] rfl ⟨(1:Int),hF,rfl,rfl⟩
       ·replace hF:=W.ite_f hb6 hF
        refine At.skip ?_
        refine At.n ?_
        refine At.vl (At.seq (At.region (At.d R R R R (jd (x:=(.tv (kInt .i64) (2:Int))) (ji _ _)) ?_)))
        refine At.done (At.vl (At.ret ?_))
        exact At.j rfl (rv_tmp rfl) [] rfl ⟨(2:Int),hF,rfl,rfl⟩
def yq.F (b1:Jw) (t1:Jw):W Bool:=W.ret (decide (b1.x.high<t1.x.low))
theorem yq.ok {b1:Jw} {t1:Jw} {Q:Bool→Prop} (hF:yq.F b1 t1 Q):Con Tryz.prog 108 [.tv Vc b1,.ptr Vc t1] [] (fun ta rs'=>∃ (r:Bool),Q r∧ta=.tv kBool r∧rs'=[]):=by
 refine Con.i Tryz.func108 Tryz.ntmps108 R R (fun C=>?_)
 unfold yq.F at hF
 refine At.seq (At.region (At.f R (jy R R R (ja R)) ?_))
 rintro _ _ ⟨g1,rfl,rfl⟩
 refine At.d R R R R (jd (x:=(.tv kBool false)) (jl _)) ?_
 refine At.done (At.vl (At.seq (At.region (At.d R R R R (je (ja R) fa_156_2) ?_))))
 refine At.d R R R R (je (ja R) fa_153_1) ?_
 refine At.d R R R R (jc (ja R) 0 R sub_sweep_item_2_1 ty_3) ?_
 refine At.d R R R R (Ji (K:=Vc) (ja R) fa_156_2 zx) ?_
 refine At.d R R R R (Ji (K:=Vz) (ja R) fa_153_0 wu) ?_
 refine At.d R R R R (vw (K:=(kInt .i64)) (ja R) ty_3) ?_
 refine At.d R R R R (jk (ja R) (ja R) vg) ?_
 refine At.d R R R R (jd (x:=(.tv kBool (decide (b1.x.high<t1.x.low)))) (ja R)) ?_
 refine At.done (At.vl (At.ret ?_))
 exact At.j rfl (rv_tmp rfl) [] rfl ⟨(decide (b1.x.high<t1.x.low)),hF,rfl,rfl⟩
def Ja.c1:W Int:=W.ret (-1:Int)
def Ja.l1 (s1:(List Jw)) (c1:Jw) (K1:W Int) (A1:Int→W Int) (t6:Int):W Int:=W.ite (decide (t6<(s1.length:Int))) (W.req (0≤t6∧t6<(s1.length:Int)) (W.bind (yq.F (rd Jz s1 t6) c1) (fun r5=>W.ite r5 (W.ret t6) (A1 (w64 (t6+(1:Int))))))) (K1)
def Ja.F (s1:(List Jw)) (c1:Jw):W Int:=W.ex fun n=>W.iter1 (Ja.l1 s1 c1 (Ja.c1)) n (0:Int)
theorem Ja.ok {s1:(List Jw)} {c1:Jw} {Q:Int→Prop} (hF:Ja.F s1 c1 Q):Con Tryz.prog 146 [.tv (kSlice Vc) s1,.cls 108 0 (tupl [.ptr Vc c1])] [] (fun ta rs'=>∃ (r:Int),Q r∧ta=.tv (kInt .i64) r∧rs'=[]):=by
 refine Con.i Tryz.func146 Tryz.ntmps146 R R (fun C=>?_)
 unfold Ja.F at hF
 refine At.seq (At.region (At.d R R R R (jd (x:=(.tv (kInt .i64) (0:Int))) (ji _ _)) ?_))
 refine At.done (At.vl ?_)
 refine At.cut (fun rs L=>∃ _:Unit,Ja.c1 Q∧rs=[]∧L=mkL []) ?_ ?_
 ·refine At.seq (At.region (At.d R R R R (jb (x:=(.tv (kSlice Vc) s1)) (ja R)) ?_))
  refine At.d R R R R (jt (ja R) Tryz.underlying151) ?_
  refine At.d R R R R (jb (x:=(.tv (kInt .i64) (0:Int))) (ji _ _)) ?_
  refine At.done (At.vl (At.block ?_))
  obtain ⟨n1,hF⟩:=hF
  refine At.w [] R [(0,(.tv (kSlice Vc) s1)),(1,(.cls 108 0 (tupl [(.ptr Vc c1)]))),(7,(.tv (kInt .i64) (s1.length:Int))),(8,(.tv (kInt .i64) (0:Int)))] ⟨R,R,R,R,trivial⟩ ?_
  refine At.loop (fun m rs L=>∃ (t6:Int),W.iter1 (Ja.l1 s1 c1 (Ja.c1)) m t6 Q∧rs=[]∧L=mkL [(0,(.tv (kSlice Vc) s1)),(1,(.cls 108 0 (tupl [(.ptr Vc c1)]))),(7,(.tv (kInt .i64) (s1.length:Int))),(8,(.tv (kInt .i64) t6))]) ?_ ?_ (m:=n1) ⟨(0:Int),hF,R,R⟩
  ·rintro rs L ⟨_,hF,_,_⟩;exact hF
  ·rintro m1 _ _ ⟨t6,hF,rfl,rfl⟩
   replace hF:=W.iter1_s hF
   unfold Ja.l1 at hF
   refine At.seq (At.region (At.d R R R R (jk (ja R) (ja R) vg) ?_))
   refine At.done (At.vl (At.seq ?_))
   refine At.cond (ja R) (fun hb9=>?_) (fun hb9=>?_)
   ·replace hF:=W.ite_t hb9 hF
    refine At.skip (At.vl (At.seq (At.block (At.seq (At.region (At.d R R R R (jb (x:=(.tv (kInt .i64) t6)) (ja R)) ?_))))))
    refine At.d R R R R (jd (x:=(.tv (kInt .i64) t6)) (ja R)) ?_
    refine At.done (At.vl (At.seq (At.region (At.d R R R R (jb (x:=(.cls 108 0 (tupl [(.ptr Vc c1)]))) (ja R)) ?_))))
    refine At.d R R R R (jb (x:=(.tv (kSlice Vc) s1)) (ja R)) ?_
    refine At.d R R R R (jb (x:=(.tv (kInt .i64) t6)) (ja R)) ?_
    obtain ⟨hq5,hF⟩:=hF
    refine At.d R R R R (vj Jz (ja R) (ja R) Tryz.underlying151 ty_156 hq5) ?_
    refine At.d R R R R (vw (K:=Vc) (ja R) ty_156) ?_
    replace hF:=W.vq hF
    refine At.f R (jn R R jp (ent_val0 R (ja R) en_108 (jf (ja R) jg)) (yq.ok hF) (by rintro _ _ ⟨r,_,rfl,_⟩;exact vp)) ?_
    rintro _ _ ⟨_,_,⟨r5,hF,rfl,rfl⟩,rfl,rfl⟩
    refine At.done (At.vl ?_)
    refine At.cond (ja R) (fun hb10=>?_) (fun hb10=>?_)
    ·replace hF:=W.ite_t hb10 hF
     refine At.seq (At.region (At.d R R R R (jb (x:=(.tv (kInt .i64) t6)) (ja R)) ?_))
     refine At.d R R R R (jd (x:=(.tv (kInt .i64) t6)) (ja R)) ?_
     refine At.done (At.vl (At.ret ?_))
     refine At.q ?_
     refine At.vm (At.vm ?_)
     refine At.q ?_
     refine At.vm ?_
     exact At.j rfl (rv_tmp rfl) [] rfl ⟨t6,hF,rfl,rfl⟩
    ·replace hF:=W.ite_f hb10 hF
     refine At.skip ?_
     refine At.n ?_
     refine At.vl (At.region (At.d R R R R (jk (ja R) (ji _ _) vf) ?_))
     refine At.d R R R R (jb (x:=(.tv (kInt .i64) (w64 (t6+(1:Int))))) (ja R)) ?_
     refine At.done (At.vl ?_)
     refine At.w [] R [(0,(.tv (kSlice Vc) s1)),(1,(.cls 108 0 (tupl [(.ptr Vc c1)]))),(7,(.tv (kInt .i64) (s1.length:Int))),(8,(.tv (kInt .i64) (w64 (t6+(1:Int)))))] ⟨R,R,R,R,trivial⟩ (At.r ⟨(w64 (t6+(1:Int))),hF,R,R⟩)
   ·replace hF:=W.ite_f hb9 hF
    refine At.exit ?_
    refine At.x (At.x ?_)
    refine At.h ?_
    refine At.vl ?_
    refine At.w [] R [] trivial (At.r ⟨(),hF,R,R⟩)
 ·rintro _ _ ⟨_,hF,rfl,rfl⟩
  unfold Ja.c1 at hF
  refine At.seq (At.region (At.d R R R R (jd (x:=(.tv (kInt .i64) (-1:Int))) (ji _ _)) ?_))
  refine At.done (At.vl (At.ret ?_))
  exact At.j rfl (rv_tmp rfl) [] rfl ⟨(-1:Int),hF,rfl,rfl⟩
def vv.c1 (x4:(List Jw)) (i4:Int):W (List Jw):=W.req (0≤i4∧i4≤(x4.length:Int)) (W.req (x4.length≤x4.length) (W.req (0≤i4∧i4≤((x4.take i4.toNat++(List.replicate (x4.length-i4.toNat) Jz++x4.drop x4.length)).length:Int)) (W.req (i4.toNat≤(x4.take i4.toNat++(List.replicate (x4.length-i4.toNat) Jz++x4.drop x4.length)).length) (W.ret ((x4.take i4.toNat++(List.replicate (x4.length-i4.toNat) Jz++x4.drop x4.length)).take i4.toNat)))))
def vv.l1 (c1:Jw) (K1:(List Jw)→Int→W (List Jw)) (A1:(List Jw)→Int→Int→W (List Jw)) (x7:(List Jw)) (i7:Int) (j6:Int):W (List Jw):=W.ite (decide (j6<(x7.length:Int))) (W.req (0≤j6∧j6<(x7.length:Int)) (W.req (0≤j6∧j6<(x7.length:Int)) (W.bind (yq.F (rd Jz x7 j6) c1) (fun r6=>W.ite (!r6) (W.req (0≤i7∧i7<(x7.length:Int)) (W.req (0≤i7∧i7<(x7.length:Int)) (A1 (x7.set i7.toNat (rd Jz x7 j6)) (w64 (i7+(1:Int))) (w64 (j6+(1:Int)))))) (A1 x7 i7 (w64 (j6+(1:Int)))))))) (K1 x7 i7)
def vv.F (s1:(List Jw)) (c1:Jw):W (List Jw):=W.bind (Ja.F s1 c1) (fun r1=>W.ite (r1==(-1:Int)) (W.ret s1) (W.ex fun n=>W.iter3 (vv.l1 c1 (vv.c1)) n s1 r1 (w64 (r1+(1:Int)))))
theorem vv.ok {s1:(List Jw)} {v1:Value} {c1:Jw} {g1:Nat} {Q:(List Jw)→Prop} (hF:vv.F s1 c1 Q):Con Tryz.prog 107 [.eq v1,.cls 108 0 (tupl [.eq (.pointer (some ⟨g1,0,none⟩))])] [.row v1 156 Vc s1,.box g1 156 Vc c1] (fun ta rs'=>∃ (r:(List Jw)) (u0:Value),Q r∧ta=.eq u0∧rs'=[.row u0 156 Vc r,.box g1 156 Vc c1]):=by
 refine Con.i Tryz.func107 Tryz.ntmps107 R R (fun C=>?_)
 unfold vv.F at hF
 refine At.seq (At.region (At.d R R R R (jd (x:=(.eq (.slice none 0 0))) (opd_eq _)) ?_))
 refine At.done (At.vl (At.seq (At.region (At.d R R R R (jb (x:=(.eq v1)) (ja R)) ?_))))
 refine At.d R R R R (jb (x:=(.cls 108 0 (tupl [(.eq (.pointer (some ⟨g1,0,none⟩)))]))) (ja R)) ?_
 replace hF:=W.vq hF
 refine At.f R (jn R R (lends_row 0 8 R R (lends_box 1 9 R R (lend1_cls (lend1_here lend1_ptr)) jp)) (jq R en_146 (jf (ja R) (jf (ja R) jg))) (Ja.ok hF) (by rintro _ _ ⟨r,_,rfl,_⟩;exact flat_int)) ?_
 rintro _ _ ⟨_,_,⟨r1,hF,rfl,rfl⟩,rfl,rfl⟩
 refine At.d R R R R (jd (x:=(.tv (kInt .i64) r1)) (ja R)) ?_
 refine At.done (At.vl (At.seq (At.seq (At.region (At.d R R R R (jb (x:=(.tv (kInt .i64) r1)) (ja R)) ?_)))))
 refine At.d R R R R (jk (ja R) (ji _ _) bin_eql) ?_
 refine At.done (At.vl ?_)
 refine At.cond (ja R) (fun hb1=>?_) (fun hb1=>?_)
 ·replace hF:=W.ite_t hb1 hF
  refine At.seq (At.region (At.d R R R R (jb (x:=(.eq v1)) (ja R)) ?_))
  refine At.d R R R R (jd (x:=(.eq v1)) (ja R)) ?_
  refine At.done (At.vl (At.ret (At.vm ?_)))
  exact At.j rfl (rv_tmp rfl) [0,1] rfl ⟨s1,_,hF,rfl,rfl⟩
 ·replace hF:=W.ite_f hb1 hF
  refine At.skip (At.vl ?_)
  refine At.cut (fun rs L=>∃ (x4:(List Jw)) (i4:Int),vv.c1 x4 i4 Q∧rs=[.row v1 156 Vc x4,.box g1 156 Vc c1]∧L=mkL [(0,(.eq v1)),(5,(.tv (kInt .i64) i4))]) ?_ ?_
  ·refine At.seq (At.region (At.d R R R R (jb (x:=(.tv (kInt .i64) r1)) (ja R)) ?_))
   refine At.d R R R R (jk (ja R) (ji _ _) vf) ?_
   refine At.d R R R R (jd (x:=(.tv (kInt .i64) (w64 (r1+(1:Int))))) (ja R)) ?_
   refine At.done (At.vl (At.block ?_))
   obtain ⟨n1,hF⟩:=hF
   refine At.w [0,1] R [(0,(.eq v1)),(1,(.cls 108 0 (tupl [(.eq (.pointer (some ⟨g1,0,none⟩)))]))),(5,(.tv (kInt .i64) r1)),(6,(.tv (kInt .i64) (w64 (r1+(1:Int)))))] ⟨R,R,R,R,trivial⟩ ?_
   refine At.loop (fun m rs L=>∃ (x7:(List Jw)) (i7:Int) (j6:Int),W.iter3 (vv.l1 c1 (vv.c1)) m x7 i7 j6 Q∧rs=[.row v1 156 Vc x7,.box g1 156 Vc c1]∧L=mkL [(0,(.eq v1)),(1,(.cls 108 0 (tupl [(.eq (.pointer (some ⟨g1,0,none⟩)))]))),(5,(.tv (kInt .i64) i7)),(6,(.tv (kInt .i64) j6))]) ?_ ?_ (m:=n1) ⟨s1,r1,(w64 (r1+(1:Int))),hF,R,R⟩
   ·rintro rs L ⟨_,_,_,hF,_,_⟩;exact hF
   ·rintro m1 _ _ ⟨x7,i7,j6,hF,rfl,rfl⟩
    replace hF:=W.iter3_s hF
    unfold vv.l1 at hF
    refine At.seq (At.seq (At.region (At.d R R R R (jb (x:=(.tv (kInt .i64) j6)) (ja R)) ?_)))
    refine At.d R R R R (jb (x:=(.eq v1)) (ja R)) ?_
    refine At.d R R R R (does_len_row (ja R) 0 R Tryz.underlying151) ?_
    refine At.d R R R R (jk (ja R) (ja R) vg) ?_
    refine At.done (At.vl ?_)
    refine At.cond (ja R) (fun hb10=>?_) (fun hb10=>?_)
    ·replace hF:=W.ite_t hb10 hF
     refine At.skip (At.vl (At.seq (At.block (At.seq (At.region (At.d R R R R (jb (x:=(.eq v1)) (ja R)) ?_))))))
     refine At.d R R R R (jb (x:=(.tv (kInt .i64) j6)) (ja R)) ?_
     obtain ⟨hq21,hF⟩:=hF
     refine At.d R R R R (does_idx_row (ja R) 0 R (ja R) Tryz.underlying151 ty_156 hq21) ?_
     obtain ⟨hq22,hF⟩:=hF
     refine At.d R R R R (Jh (ja R) 0 R j6 0 R Jz hq22 (Sub.self Vc) ty_156) ?_
     refine At.f R (eff_alloc R R R tz_156) ?_
     rintro _ _ ⟨g6,rfl,rfl⟩
     refine At.f R (jz R R (ja R) 0 R (Sub.self Vc) ty_156 (ja R)) ?_
     rintro _ _ ⟨rfl,rfl⟩
     refine At.done (At.vl (At.seq (At.region (At.d R R R R (jb (x:=(.cls 108 0 (tupl [(.eq (.pointer (some ⟨g1,0,none⟩)))]))) (ja R)) ?_))))
     refine At.d R R R R (jc (ja R) 0 R (Sub.self Vc) ty_156) ?_
     replace hF:=W.vq hF
     refine At.f R (jn R R (lends_box 2 26 R R (lend1_cls (lend1_here lend1_ptr)) jp) (ent_val0 R (ja R) en_108 (jf (ja R) jg)) (yq.ok hF) (by rintro _ _ ⟨r,_,rfl,_⟩;exact vp)) ?_
     rintro _ _ ⟨_,_,⟨r6,hF,rfl,rfl⟩,rfl,rfl⟩
     refine At.d R R R R (ve (ja R)) ?_
     refine At.done (At.vl ?_)
     refine At.cond (ja R) (fun hb11=>?_) (fun hb11=>?_)
     ·replace hF:=W.ite_t hb11 hF
      refine At.seq (At.region (At.d R R R R (jb (x:=(.eq v1)) (ja R)) ?_))
      refine At.d R R R R (jb (x:=(.tv (kInt .i64) i7)) (ja R)) ?_
      refine At.d R R R R (jc (ja R) 0 R (Sub.self Vc) ty_156) ?_
      obtain ⟨hq23,hF⟩:=hF
      refine At.d R R R R (does_idx_row (ja R) 1 R (ja R) Tryz.underlying151 ty_156 hq23) ?_
      obtain ⟨hq24,hF⟩:=hF
      refine At.f R (eff_store_elem R R (ja R) 1 R i7 0 R Jz hq24 (Sub.self Vc) ty_156 (ja R)) ?_
      rintro _ _ ⟨rfl,rfl⟩
      refine At.done (At.vl (At.region (At.d R R R R (jb (x:=(.tv (kInt .i64) i7)) (ja R)) ?_)))
      refine At.d R R R R (jk (ja R) (ji _ _) vf) ?_
      refine At.d R R R R (jd (x:=(.tv (kInt .i64) (w64 (i7+(1:Int))))) (ja R)) ?_
      refine At.done ?_
      refine At.n ?_
      refine At.vl (At.region (At.d R R R R (jb (x:=(.tv (kInt .i64) j6)) (ja R)) ?_))
      refine At.d R R R R (jk (ja R) (ji _ _) vf) ?_
      refine At.d R R R R (jd (x:=(.tv (kInt .i64) (w64 (j6+(1:Int))))) (ja R)) ?_
      refine At.done (At.vl ?_)
      refine At.w [1,2] R [(0,(.eq v1)),(1,(.cls 108 0 (tupl [(.eq (.pointer (some ⟨g1,0,none⟩)))]))),(5,(.tv (kInt .i64) (w64 (i7+(1:Int))))),(6,(.tv (kInt .i64) (w64 (j6+(1:Int)))))] ⟨R,R,R,R,trivial⟩ (At.r ⟨(x7.set i7.toNat (rd Jz x7 j6)),(w64 (i7+(1:Int))),(w64 (j6+(1:Int))),hF,R,R⟩)
     ·replace hF:=W.ite_f hb11 hF
      refine At.skip ?_
      refine At.n ?_
      refine At.vl (At.region (At.d R R R R (jb (x:=(.tv (kInt .i64) j6)) (ja R)) ?_))
      refine At.d R R R R (jk (ja R) (ji _ _) vf) ?_
      refine At.d R R R R (jd (x:=(.tv (kInt .i64) (w64 (j6+(1:Int))))) (ja R)) ?_
      refine At.done (At.vl ?_)
      refine At.w [1,2] R [(0,(.eq v1)),(1,(.cls 108 0 (tupl [(.eq (.pointer (some ⟨g1,0,none⟩)))]))),(5,(.tv (kInt .i64) i7)),(6,(.tv (kInt .i64) (w64 (j6+(1:Int)))))] ⟨R,R,R,R,trivial⟩ (At.r ⟨x7,i7,(w64 (j6+(1:Int))),hF,R,R⟩)
    ·replace hF:=W.ite_f hb10 hF
     refine At.exit ?_
     refine At.x (At.x ?_)
     refine At.h ?_
     refine At.vl ?_
     refine At.w [0,1] R [(0,(.eq v1)),(5,(.tv (kInt .i64) i7))] ⟨R,R,trivial⟩ (At.r ⟨x7,i7,hF,R,R⟩)
  ·rintro _ _ ⟨x4,i4,hF,rfl,rfl⟩
   unfold vv.c1 at hF
   refine At.seq (At.region (At.d R R R R (jb (x:=(.eq v1)) (ja R)) ?_))
   refine At.d R R R R (jb (x:=(.tv (kInt .i64) i4)) (ja R)) ?_
   obtain ⟨hq9,hF⟩:=hF
   refine At.d R R R R (does_cutrow_l (ja R) 0 R (ja R) Tryz.underlying151 ty_156 hq9) ?_
   obtain ⟨hq10,hF⟩:=hF
   refine At.f R (eff_clear_cut R R 0 R (ja R) hq10 Tryz.underlying151 tz_156) ?_
   rintro _ _ ⟨rfl,rfl⟩
   refine At.done (At.vl (At.seq (At.region (At.d R R R R (jb (x:=(.eq v1)) (ja R)) ?_))))
   refine At.d R R R R (jb (x:=(.tv (kInt .i64) i4)) (ja R)) ?_
   obtain ⟨hq11,hF⟩:=hF
   refine At.d R R R R (does_cutrow_h (ja R) 0 R (ja R) Tryz.underlying151 ty_156 hq11) ?_
   refine At.d R R R R (jd (x:=(cutv 0 i4.toNat Vc.sz v1)) (ja R)) ?_
   refine At.done (At.vl (At.ret ?_))
   obtain ⟨hq12,hF⟩:=hF
   refine At.cutrow 0 4 R R hq12 (fun v2=>?_)
   exact At.j rfl (rv_tmp rfl) [0,1] rfl ⟨((x4.take i4.toNat++(List.replicate (x4.length-i4.toNat) Jz++x4.drop x4.length)).take i4.toNat),_,hF,rfl,rfl⟩
def Vy.c1:W Int:=W.ret (0:Int)
def Vy.l1 (vals1:(List Int)) (K1:W Int) (A1:Int→W Int) (t6:Int):W Int:=W.ite (decide (t6<(vals1.length:Int))) (W.req (0≤t6∧t6<(vals1.length:Int)) (W.ite ((rd (0:Int) vals1 t6) != (0:Int)) (W.ret (rd (0:Int) vals1 t6)) (A1 (w64 (t6+(1:Int)))))) (K1)
def Vy.F (vals1:(List Int)):W Int:=W.ex fun n=>W.iter1 (Vy.l1 vals1 (Vy.c1)) n (0:Int)
theorem Vy.ok {vals1:(List Int)} {Q:Int→Prop} (hF:Vy.F vals1 Q):Con Tryz.prog 106 [.tv (kSlice (kInt .i64)) vals1] [] (fun ta rs'=>∃ (r:Int),Q r∧ta=.tv (kInt .i64) r∧rs'=[]):=by
 refine Con.i Tryz.func106 Tryz.ntmps106 R R (fun C=>?_)
 unfold Vy.F at hF
 refine At.seq (At.region (At.d R R R R (jd (x:=(.tv (kInt .i64) (0:Int))) (ji _ _)) ?_))
 refine At.done (At.vl (At.seq (At.region (At.d R R R R (jd (x:=(.tv (kInt .i64) (0:Int))) (ji _ _)) ?_))))
 refine At.done (At.vl ?_)
 refine At.cut (fun rs L=>∃ _:Unit,Vy.c1 Q∧rs=[]∧L=mkL [(3,(.tv (kInt .i64) (0:Int)))]) ?_ ?_
 ·refine At.seq (At.region (At.d R R R R (jb (x:=(.tv (kSlice (kInt .i64)) vals1)) (ja R)) ?_))
  refine At.d R R R R (jt (ja R) Tryz.underlying89) ?_
  refine At.d R R R R (jb (x:=(.tv (kInt .i64) (0:Int))) (ji _ _)) ?_
  refine At.done (At.vl (At.block ?_))
  obtain ⟨n1,hF⟩:=hF
  refine At.w [] R [(3,(.tv (kInt .i64) (0:Int))),(6,(.tv (kSlice (kInt .i64)) vals1)),(7,(.tv (kInt .i64) (vals1.length:Int))),(8,(.tv (kInt .i64) (0:Int)))] ⟨R,R,R,R,trivial⟩ ?_
  refine At.loop (fun m rs L=>∃ (t6:Int),W.iter1 (Vy.l1 vals1 (Vy.c1)) m t6 Q∧rs=[]∧L=mkL [(3,(.tv (kInt .i64) (0:Int))),(6,(.tv (kSlice (kInt .i64)) vals1)),(7,(.tv (kInt .i64) (vals1.length:Int))),(8,(.tv (kInt .i64) t6))]) ?_ ?_ (m:=n1) ⟨(0:Int),hF,R,R⟩
  ·rintro rs L ⟨_,hF,_,_⟩;exact hF
  ·rintro m1 _ _ ⟨t6,hF,rfl,rfl⟩
   replace hF:=W.iter1_s hF
   unfold Vy.l1 at hF
   refine At.seq (At.region (At.d R R R R (jk (ja R) (ja R) vg) ?_))
   refine At.done (At.vl (At.seq ?_))
   refine At.cond (ja R) (fun hb9=>?_) (fun hb9=>?_)
   ·replace hF:=W.ite_t hb9 hF
    refine At.skip (At.vl (At.seq (At.block (At.seq (At.region ?_)))))
    obtain ⟨hq5,hF⟩:=hF
    refine At.d R R R R (vj (0:Int) (ja R) (ja R) Tryz.underlying89 ty_3 hq5) ?_
    refine At.d R R R R (vw (K:=(kInt .i64)) (ja R) ty_3) ?_
    refine At.d R R R R (jd (x:=(.tv (kInt .i64) (rd (0:Int) vals1 t6))) (ja R)) ?_
    refine At.done (At.vl (At.seq (At.region (At.d R R R R (jb (x:=(.tv (kInt .i64) (rd (0:Int) vals1 t6))) (ja R)) ?_))))
    refine At.d R R R R (jb (x:=(.tv (kInt .i64) (0:Int))) (ja R)) ?_
    refine At.d R R R R (jk (ja R) (ja R) bin_neq) ?_
    refine At.done (At.vl ?_)
    refine At.cond (ja R) (fun hb10=>?_) (fun hb10=>?_)
    ·replace hF:=W.ite_t hb10 hF
     refine At.seq (At.region (At.d R R R R (jb (x:=(.tv (kInt .i64) (rd (0:Int) vals1 t6))) (ja R)) ?_))
     refine At.d R R R R (jd (x:=(.tv (kInt .i64) (rd (0:Int) vals1 t6))) (ja R)) ?_
     refine At.done (At.vl (At.ret ?_))
     refine At.q ?_
     refine At.vm (At.vm ?_)
     refine At.q ?_
     refine At.vm ?_
     exact At.j rfl (rv_tmp rfl) [] rfl ⟨(rd (0:Int) vals1 t6),hF,rfl,rfl⟩
    ·replace hF:=W.ite_f hb10 hF
     refine At.skip ?_
     refine At.n ?_
     refine At.vl (At.region (At.d R R R R (jk (ja R) (ji _ _) vf) ?_))
     refine At.d R R R R (jb (x:=(.tv (kInt .i64) (w64 (t6+(1:Int))))) (ja R)) ?_
     refine At.done (At.vl ?_)
     refine At.w [] R [(3,(.tv (kInt .i64) (0:Int))),(6,(.tv (kSlice (kInt .i64)) vals1)),(7,(.tv (kInt .i64) (vals1.length:Int))),(8,(.tv (kInt .i64) (w64 (t6+(1:Int)))))] ⟨R,R,R,R,trivial⟩ (At.r ⟨(w64 (t6+(1:Int))),hF,R,R⟩)
   ·replace hF:=W.ite_f hb9 hF
    refine At.exit ?_
    refine At.x (At.x ?_)
    refine At.h ?_
    refine At.vl ?_
    refine At.w [] R [(3,(.tv (kInt .i64) (0:Int)))] ⟨R,trivial⟩ (At.r ⟨(),hF,R,R⟩)
 ·rintro _ _ ⟨_,hF,rfl,rfl⟩
  unfold Vy.c1 at hF
  refine At.seq (At.region (At.d R R R R (jb (x:=(.tv (kInt .i64) (0:Int))) (ja R)) ?_))
  refine At.d R R R R (jd (x:=(.tv (kInt .i64) (0:Int))) (ja R)) ?_
  refine At.done (At.vl (At.ret ?_))
  exact At.j rfl (rv_tmp rfl) [] rfl ⟨(0:Int),hF,rfl,rfl⟩
def jb0.F (a1:Meet) (b1:Meet):W Int:=W.bind (Vy.F ([(w64 (a1.A-b1.A)),(w64 (a1.B-b1.B))]:List Int)) (fun r1=>W.ret r1)
theorem jb0.ok {a1:Meet} {b1:Meet} {Q:Int→Prop} (hF:jb0.F a1 b1 Q):Con Tryz.prog 111 [.tv kMeet a1,.tv kMeet b1] [] (fun ta rs'=>∃ (r:Int),Q r∧ta=.tv (kInt .i64) r∧rs'=[]):=by
 refine Con.i Tryz.func111 Tryz.ntmps111 R R (fun C=>?_)
 unfold jb0.F at hF
 refine At.seq (At.region (At.f R (jy R R R (ja R)) ?_))
 rintro _ _ ⟨g1,rfl,rfl⟩
 refine At.f R (jy R R R (ja R)) ?_
 rintro _ _ ⟨g2,rfl,rfl⟩
 refine At.d R R R R (jd (x:=(.tv (kInt .i64) (0:Int))) (ji _ _)) ?_
 refine At.done (At.vl (At.seq (At.region (At.d R R R R (je (ja R) fa_125_0) ?_))))
 refine At.d R R R R (jc (ja R) 1 R sub_Meet_0 ty_3) ?_
 refine At.d R R R R (je (ja R) fa_125_0) ?_
 refine At.d R R R R (jc (ja R) 0 R sub_Meet_0 ty_3) ?_
 refine At.d R R R R (jk (ja R) (ja R) bin_sub) ?_
 refine At.d R R R R (je (ja R) fa_125_1) ?_
 refine At.d R R R R (jc (ja R) 1 R sub_Meet_1 ty_3) ?_
 refine At.d R R R R (je (ja R) fa_125_1) ?_
 refine At.d R R R R (jc (ja R) 0 R sub_Meet_1 ty_3) ?_
 refine At.d R R R R (jk (ja R) (ja R) bin_sub) ?_
 refine At.f R (vc R R R (os:=[.tmp 9,.tmp 14]) R sl_89 (xs:=([(w64 (a1.A-b1.A)),(w64 (a1.B-b1.B))]:List Int)) (jf (ja R) (jf (ja R) jg)) R R) ?_
 rintro _ _ ⟨v1,rfl,rfl⟩
 replace hF:=W.vq hF
 refine At.f R (jn R R (lends_row 0 15 R R jp) (jq R en_106 (jf (ja R) jg)) (Vy.ok hF) (by rintro _ _ ⟨r,_,rfl,_⟩;exact flat_int)) ?_
 rintro _ _ ⟨_,_,⟨r1,hF,rfl,rfl⟩,rfl,rfl⟩
 refine At.d R R R R (jd (x:=(.tv (kInt .i64) r1)) (ja R)) ?_
 refine At.done (At.vl (At.ret ?_))
 exact At.j rfl (rv_tmp rfl) [] rfl ⟨r1,hF,rfl,rfl⟩
def qb.F (x:(List Meet)):W (List Meet):=W.sort (fun a b=>jb0.F a b) x W.ret
theorem qb.ok {x:(List Meet)} {u:Value} {Q:(List Meet)→Prop} (hF:qb.F x Q):Con Tryz.prog 110 [.eq u,.cls 111 0 (tupl [])] [.row u 125 kMeet x] (fun ta rs'=>∃ (r:(List Meet)),Q r∧ta=.eq (.tuple #[])∧rs'=[.row u 125 kMeet r]):=by
 obtain ⟨hl,cf,hO,hc,hk⟩:=hF
 exact (con_sortFunc Tryz.sort110 rfl rfl ty_125 en_111 (fun a b ha hb=>(jb0.ok (hc a b ha hb)).mono (by rintro ta rs' ⟨r,rfl,rfl,rfl⟩;rfl)) hO hl).mono (by rintro ta rs' ⟨ys,hp,hs,rfl,rfl⟩;exact ⟨ys,hk ys hp hs,rfl,rfl⟩)
def ja9.F (a1:Jw) (b1:Jw):W Int:=W.bind (wd.F a1.x.low b1.x.low) (fun r1=>W.bind (Vy.F ([r1,(w64 (a1.index-b1.index))]:List Int)) (fun r2=>W.ret r2))
theorem ja9.ok {a1:Jw} {b1:Jw} {Q:Int→Prop} (hF:ja9.F a1 b1 Q):Con Tryz.prog 105 [.tv Vc a1,.tv Vc b1] [] (fun ta rs'=>∃ (r:Int),Q r∧ta=.tv (kInt .i64) r∧rs'=[]):=by
 refine Con.i Tryz.func105 Tryz.ntmps105 R R (fun C=>?_)
 unfold ja9.F at hF
 refine At.seq (At.region (At.f R (jy R R R (ja R)) ?_))
 rintro _ _ ⟨g1,rfl,rfl⟩
 refine At.f R (jy R R R (ja R)) ?_
 rintro _ _ ⟨g2,rfl,rfl⟩
 refine At.d R R R R (jd (x:=(.tv (kInt .i64) (0:Int))) (ji _ _)) ?_
 refine At.done (At.vl (At.seq ?_))
 refine At.draw mixed [0,1] R [[],[]] (fun φ w hgd=>?_)
 replace hF:=W.vq hF
 refine AtH.take [0,1] hgd 0 R R R R (D':=#[Y,N,N,N,N,N,N,N,N,N,N,N,N,N,N]) (by kernel_rfl) (fun _ _ _ _ h=>h) R (je (ja R) fa_156_2) ?_
 refine AtH.take [0,1] hgd 1 R R R R (D':=#[Y,Y,N,N,N,N,N,N,N,N,N,N,N,N,N]) (by kernel_rfl) (fun _ _ _ _ h=>h) R (je (ja R) fa_153_0) ?_
 refine AtH.take [0,1] hgd 2 R R R R (D':=#[Y,Y,Y,N,N,N,N,N,N,N,N,N,N,N,N]) (by kernel_rfl) (fun _ _ _ _ h=>h) R (jc (ja R) 1 R sub_sweep_item_2_0 ty_3) ?_
 refine AtH.take [0,1] hgd 3 R R R R (D':=#[Y,Y,Y,Y,N,N,N,N,N,N,N,N,N,N,N]) (by kernel_rfl) (fun _ _ _ _ h=>h) R (je (ja R) fa_156_2) ?_
 refine AtH.take [0,1] hgd 4 R R R R (D':=#[Y,Y,Y,Y,Y,N,N,N,N,N,N,N,N,N,N]) (by kernel_rfl) (fun _ _ _ _ h=>h) R (je (ja R) fa_153_0) ?_
 refine AtH.take [0,1] hgd 5 R R R R (D':=#[Y,Y,Y,Y,Y,Y,N,N,N,N,N,N,N,N,N]) (by kernel_rfl) (fun _ _ _ _ h=>h) R (jc (ja R) 0 R sub_sweep_item_2_0 ty_3) ?_
 refine AtH.take [0,1] hgd 7 R R R R (D':=#[Y,Y,Y,Y,Y,Y,N,Y,N,N,N,N,N,N,N]) (by kernel_rfl) (fun _ _ _ _ h=>h) R (je (ja R) fa_156_0) ?_
 refine AtH.take [0,1] hgd 8 R R R R (D':=#[Y,Y,Y,Y,Y,Y,N,Y,Y,N,N,N,N,N,N]) (by kernel_rfl) (fun _ _ _ _ h=>h) R (jc (ja R) 1 R yf ty_3) ?_
 refine AtH.take [0,1] hgd 9 R R R R (D':=#[Y,Y,Y,Y,Y,Y,N,Y,Y,Y,N,N,N,N,N]) (by kernel_rfl) (fun _ _ _ _ h=>h) R (je (ja R) fa_156_0) ?_
 refine AtH.take [0,1] hgd 10 R R R R (D':=#[Y,Y,Y,Y,Y,Y,N,Y,Y,Y,Y,N,N,N,N]) (by kernel_rfl) (fun _ _ _ _ h=>h) R (jc (ja R) 0 R yf ty_3) ?_
 refine AtH.take [0,1] hgd 11 R R R R (D':=#[Y,Y,Y,Y,Y,Y,N,Y,Y,Y,Y,Y,N,N,N]) (by kernel_rfl) (fun _ _ _ _ h=>h) R (jk (ja R) (ja R) bin_sub) ?_
 refine AtH.all1 6 (by kernel_rfl) ?_
 refine AtH.f [(0,0),(1,1)] R R R R R R (jn R R jp (jq R en_92 (jf (ja R) (jf (ja R) jg))) (wd.ok hF) (by rintro _ _ ⟨r,_,rfl,_⟩;exact flat_int)) (D':=#[Y,Y,Y,Y,Y,Y,Y,Y,Y,Y,Y,Y,N,N,N]) (by kernel_rfl) (by kernel_rfl) ?_
 rintro _ _ ⟨_,_,⟨r1,hF,rfl,rfl⟩,rfl,rfl⟩
 refine ⟨_,.inr ⟨R,flat_int⟩,?_⟩
 replace hF:=W.vq hF
 refine AtH.all1 12 (by kernel_rfl) ?_
 refine AtH.f [(0,0),(1,1)] R R R R R R (vc R R R (os:=[.tmp 11,.tmp 16]) R sl_89 (xs:=([r1,(w64 (a1.index-b1.index))]:List Int)) (jf (ja R) (jf (ja R) jg)) R R) (D':=#[Y,Y,Y,Y,Y,Y,Y,Y,Y,Y,Y,Y,Y,N,N]) (by kernel_rfl) (by kernel_rfl) ?_
 rintro _ _ ⟨v2,rfl,rfl⟩
 refine ⟨_,.inr ⟨R,flat_eq⟩,?_⟩
 refine AtH.all1 13 (by kernel_rfl) ?_
 refine AtH.f [(0,1),(1,2)] R R R R R R (jn R R (lends_row 0 17 R R jp) (jq R en_106 (jf (ja R) jg)) (Vy.ok hF) (by rintro _ _ ⟨r,_,rfl,_⟩;exact flat_int)) (D':=#[Y,Y,Y,Y,Y,Y,Y,Y,Y,Y,Y,Y,Y,Y,N]) (by kernel_rfl) (by kernel_rfl) ?_
 rintro _ _ ⟨_,_,⟨r2,hF,rfl,rfl⟩,rfl,rfl⟩
 refine ⟨_,.inr ⟨R,flat_int⟩,?_⟩
 refine AtH.take [0,1] hgd 14 R R R R (D':=#[Y,Y,Y,Y,Y,Y,Y,Y,Y,Y,Y,Y,Y,Y,Y]) (by kernel_rfl) (fun _ _ _ _ h=>h) R (jd (x:=(.tv (kInt .i64) r2)) (ja R)) ?_
 refine AtH.done (by kernel_rfl) ?_
 refine At.vl (At.ret ?_)
 exact At.j rfl (rv_tmp rfl) [] rfl ⟨r2,hF,rfl,rfl⟩
def Vw.F (x:(List Jw)):W (List Jw):=W.sort (fun a b=>ja9.F a b) x W.ret
theorem Vw.ok {x:(List Jw)} {u:Value} {Q:(List Jw)→Prop} (hF:Vw.F x Q):Con Tryz.prog 104 [.eq u,.cls 105 0 (tupl [])] [.row u 156 Vc x] (fun ta rs'=>∃ (r:(List Jw)),Q r∧ta=.eq (.tuple #[])∧rs'=[.row u 156 Vc r]):=by
 obtain ⟨hl,cf,hO,hc,hk⟩:=hF
 exact (con_sortFunc Tryz.sort104 rfl rfl ty_156 en_105 (fun a b ha hb=>(ja9.ok (hc a b ha hb)).mono (by rintro ta rs' ⟨r,rfl,rfl,rfl⟩;rfl)) hO hl).mono (by rintro ta rs' ⟨ys,hp,hs,rfl,rfl⟩;exact ⟨ys,hk ys hp hs,rfl,rfl⟩)
def wz.F (b1:Vt) (c1:Vt):W Bool:=W.ret ((decide (b1.low≤c1.high))&&(decide (c1.low≤b1.high)))
theorem wz.ok {b1:Vt} {c1:Vt} {Q:Bool→Prop} (hF:wz.F b1 c1 Q):Con Tryz.prog 109 [.tv Vz b1,.tv Vz c1] [] (fun ta rs'=>∃ (r:Bool),Q r∧ta=.tv kBool r∧rs'=[]):=by
 refine Con.i Tryz.func109 Tryz.ntmps109 R R (fun C=>?_)
 unfold wz.F at hF
 refine At.seq (At.region (At.f R (jy R R R (ja R)) ?_))
 rintro _ _ ⟨g1,rfl,rfl⟩
 refine At.f R (jy R R R (ja R)) ?_
 rintro _ _ ⟨g2,rfl,rfl⟩
 refine At.d R R R R (jd (x:=(.tv kBool false)) (jl _)) ?_
 refine At.done (At.vl (At.seq (At.region (At.d R R R R (je (ja R) fa_153_0) ?_))))
 refine At.d R R R R (jc (ja R) 1 R wu ty_3) ?_
 refine At.d R R R R (je (ja R) fa_153_1) ?_
 refine At.d R R R R (jc (ja R) 0 R yn ty_3) ?_
 refine At.d R R R R (jk (ja R) (ja R) bin_leq) ?_
 refine At.d R R R R (jb (x:=(.tv kBool (decide (b1.low≤c1.high)))) (ja R)) ?_
 refine At.vn R R R R (jw R) R (fun hg1=>(je (ja R) fa_153_0)) ?_
 refine At.vn R R R R (jw R) R (fun hg2=>(jc (jh R hg2) 0 R wu ty_3)) ?_
 refine At.vn R R R R (jw R) R (fun hg3=>(je (ja R) fa_153_1)) ?_
 refine At.vn R R R R (jw R) R (fun hg4=>(jc (jh R hg4) 1 R yn ty_3)) ?_
 refine At.vn R R R R (jw R) R (fun hg5=>(jk (jh R hg5) (jh R hg5) bin_leq)) ?_
 refine At.d R R R R (jm (ja R) (ja R) (jl _) vh) ?_
 refine At.d R R R R (jd (x:=(.tv kBool ((decide (b1.low≤c1.high))&&(decide (c1.low≤b1.high))))) (ja R)) ?_
 refine At.done (At.vl (At.ret ?_))
 exact At.j rfl (rv_tmp rfl) [] rfl ⟨((decide (b1.low≤c1.high))&&(decide (c1.low≤b1.high))),hF,rfl,rfl⟩
def zk.F (a1:Int) (b1:Int):W Vt:=W.ret (⟨(if b1<a1 then b1 else a1),(if a1<b1 then b1 else a1)⟩:Vt)
theorem zk.ok {a1:Int} {b1:Int} {Q:Vt→Prop} (hF:zk.F a1 b1 Q):Con Tryz.prog 103 [.tv (kInt .i64) a1,.tv (kInt .i64) b1] [] (fun ta rs'=>∃ (r:Vt),Q r∧ta=.tv Vz r∧rs'=[]):=by
 refine Con.i Tryz.func103 Tryz.ntmps103 R R (fun C=>?_)
 unfold zk.F at hF
 refine At.seq (At.region (At.f R (eff_alloc R R R tz_153) ?_))
 rintro _ _ ⟨g1,rfl,rfl⟩
 refine At.done (At.vl (At.seq (At.region (At.d R R R R (jb (x:=(.tv (kInt .i64) a1)) (ja R)) ?_))))
 refine At.d R R R R (jb (x:=(.tv (kInt .i64) b1)) (ja R)) ?_
 refine At.d R R R R (does_min (ja R) (ja R)) ?_
 refine At.d R R R R (jb (x:=(.tv (kInt .i64) a1)) (ja R)) ?_
 refine At.d R R R R (jb (x:=(.tv (kInt .i64) b1)) (ja R)) ?_
 refine At.d R R R R (does_max (ja R) (ja R)) ?_
 refine At.d R R R R (vd (jr (ja R) (jr (ja R) js)) zr_153 bd_153 R (fills_cons R wu (fills_cons R yn fills_nil))) ?_
 refine At.f R (jz R R (ja R) 0 R (Sub.self Vz) ty_153 (ja R)) ?_
 rintro _ _ ⟨rfl,rfl⟩
 refine At.done (At.vl (At.ret ?_))
 exact At.j rfl (rv_cell rfl 0 rfl ty_153) [] rfl ⟨(⟨(if b1<a1 then b1 else a1),(if a1<b1 then b1 else a1)⟩:Vt),hF,rfl,rfl⟩
def Ve.c2 (x23:(List Meet)):W ((List Meet)×Int):=W.bind (qb.F x23) (fun r16=>W.ret (r16,(0:Int)))
def Ve.c3 (t21:Int) (A1:(List Meet)→(List Jw)→Int→W ((List Meet)×Int)) (x46:(List Meet)) (x47:(List Jw)):W ((List Meet)×Int):=A1 x46 x47 (w64 (t21+(1:Int)))
def Ve.c4 (r5:(List Jw)) (t21:Int) (K3:(List Meet)→(List Jw)→W ((List Meet)×Int)) (r32:(List Jw)) (x51:(List Meet)):W ((List Meet)×Int):=W.req ((r32.length+([(rd Jz r5 t21)]:List Jw).length)*72≤140737488355328∧r32.length+([(rd Jz r5 t21)]:List Jw).length≤140737488355328) (K3 x51 (r32++([(rd Jz r5 t21)]:List Jw)))
def Ve.l2 (r5:(List Jw)) (t21:Int) (r32:(List Jw)) (K4:(List Meet)→W ((List Meet)×Int)) (A2:(List Meet)→Int→W ((List Meet)×Int)) (x54:(List Meet)) (t30:Int):W ((List Meet)×Int):=W.ite (decide (t30<(r32.length:Int))) (W.req (0≤t30∧t30<(r32.length:Int)) (W.req (0≤t30∧t30<(r32.length:Int)) (W.bind (wz.F ((rd Jz r5 t21).y) ((rd Jz r32 t30).y)) (fun r41=>W.ite (!r41) (A2 x54 (w64 (t30+(1:Int)))) (W.bind (wq.F ((rd Jz r5 t21).s) ((rd Jz r32 t30).s)) (fun r42=>W.ite (r42 != (0:Int)) (W.req ((x54.length+([(⟨(if ((rd Jz r32 t30).index)<((rd Jz r5 t21).index) then ((rd Jz r32 t30).index) else ((rd Jz r5 t21).index)),(if ((rd Jz r5 t21).index)<((rd Jz r32 t30).index) then ((rd Jz r32 t30).index) else ((rd Jz r5 t21).index)),r42⟩:Meet)]:List Meet).length)*24≤140737488355328∧x54.length+([(⟨(if ((rd Jz r32 t30).index)<((rd Jz r5 t21).index) then ((rd Jz r32 t30).index) else ((rd Jz r5 t21).index)),(if ((rd Jz r5 t21).index)<((rd Jz r32 t30).index) then ((rd Jz r32 t30).index) else ((rd Jz r5 t21).index)),r42⟩:Meet)]:List Meet).length≤140737488355328) (A2 (x54++([(⟨(if ((rd Jz r32 t30).index)<((rd Jz r5 t21).index) then ((rd Jz r32 t30).index) else ((rd Jz r5 t21).index)),(if ((rd Jz r5 t21).index)<((rd Jz r32 t30).index) then ((rd Jz r32 t30).index) else ((rd Jz r5 t21).index)),r42⟩:Meet)]:List Meet)) (w64 (t30+(1:Int))))) (A2 x54 (w64 (t30+(1:Int)))))))))) (K4 x54)
def Ve.l1 (r5:(List Jw)) (K2:(List Meet)→W ((List Meet)×Int)) (A1:(List Meet)→(List Jw)→Int→W ((List Meet)×Int)) (x40:(List Meet)) (x41:(List Jw)) (t21:Int):W ((List Meet)×Int):=W.ite (decide (t21<(r5.length:Int))) (W.req (0≤t21∧t21<(r5.length:Int)) (W.req (0≤t21∧t21<(r5.length:Int)) (W.bind (vv.F x41 (rd Jz r5 t21)) (fun r32=>W.ex fun n=>W.iter2 (Ve.l2 r5 t21 r32 (Ve.c4 r5 t21 (Ve.c3 t21 A1) r32)) n x40 (0:Int))))) (K2 x40)
def Ve.c1 (x4:(List Jw)):W ((List Meet)×Int):=W.bind (Vw.F x4) (fun r5=>W.ex fun n=>W.iter3 (Ve.l1 r5 (Ve.c2)) n ([]:List Meet) ([]:List Jw) (0:Int))
def Ve.l3 (l1:(List Segment)) (K1:(List Jw)→W ((List Meet)×Int)) (A3:(List Jw)→Int→W ((List Meet)×Int)) (x57:(List Jw)) (t33:Int):W ((List Meet)×Int):=W.ite (decide (t33<(l1.length:Int))) (W.req (0≤t33∧t33<(l1.length:Int)) (W.bind (zk.F ((rd zSegment l1 t33).A.X) ((rd zSegment l1 t33).B.X)) (fun r47=>W.bind (zk.F ((rd zSegment l1 t33).A.Y) ((rd zSegment l1 t33).B.Y)) (fun r48=>W.req (0≤t33∧t33<(x57.length:Int)) (A3 (x57.set t33.toNat (⟨t33,(rd zSegment l1 t33),r47,r48⟩:Jw)) (w64 (t33+(1:Int)))))))) (K1 x57)
def Ve.F (l1:(List Segment)):W ((List Meet)×Int):=W.ite (decide ((20000:Int)<(l1.length:Int))) (W.ret (([]:List Meet),(2:Int))) (W.req (0≤(l1.length:Int)∧(l1.length:Int)*72≤140737488355328∧(l1.length:Int)≤140737488355328) (W.ex fun n=>W.iter2 (Ve.l3 l1 (Ve.c1)) n (List.replicate (l1.length:Int).toNat Jz) (0:Int)))
theorem Ve.ok {l1:(List Segment)} {Q:((List Meet)×Int)→Prop} (hF:Ve.F l1 Q):Con Tryz.prog 70 [.tv (kSlice kSegment) l1] [] (fun ta rs'=>∃ (r:((List Meet)×Int)) (u0:Value),Q r∧ta=.tup2 (.eq u0) (.tv (kInt .i64) r.2)∧rs'=[.row u0 125 kMeet r.1]):=by
 refine Con.i Tryz.func70 Tryz.ntmps70 R R (fun C=>?_)
 unfold Ve.F at hF
 refine At.seq (At.region (At.d R R R R (jd (x:=(.eq (.slice none 0 0))) (opd_eq _)) ?_))
 refine At.d R R R R (jd (x:=(.tv (kInt .i64) (0:Int))) (ji _ _)) ?_
 refine At.done (At.vl (At.seq (At.seq (At.region (At.d R R R R (jb (x:=(.tv (kSlice kSegment) l1)) (ja R)) ?_)))))
 refine At.d R R R R (jt (ja R) Tryz.underlying27) ?_
 refine At.d R R R R (jk (ja R) (ji _ _) bin_gtr) ?_
 refine At.done (At.vl ?_)
 refine At.cond (ja R) (fun hb1=>?_) (fun hb1=>?_)
 ·replace hF:=W.ite_t hb1 hF
  refine At.seq (At.region (At.d R R R R (jd (x:=(.eq (.slice none 0 0))) (opd_eq _)) ?_))
  refine At.d R R R R (jd (x:=(.tv (kInt .i64) (2:Int))) (ji _ _)) ?_
  refine At.done (At.vl (At.ret (At.vm ?_)))
  refine At.nilrow 125 kMeet ?_
  exact At.ret_2 rfl (rv_tmp rfl) (rv_tmp rfl) [0] rfl ⟨(([]:List Meet),(2:Int)),_,hF,rfl,rfl⟩
 ·replace hF:=W.ite_f hb1 hF
  refine At.skip (At.vl (At.seq (At.region (At.d R R R R (jb (x:=(.tv (kSlice kSegment) l1)) (ja R)) ?_))))
  refine At.d R R R R (jt (ja R) Tryz.underlying27) ?_
  obtain ⟨hq1,hF⟩:=hF
  refine At.f R (eff_makeN R R R sl_151 tz_156 (ja R) (ja R) hq1) ?_
  rintro _ _ ⟨v1,rfl,rfl⟩
  refine At.d R R R R (jd (x:=(.eq v1)) (ja R)) ?_
  refine At.done (At.vl ?_)
  refine At.cut (fun rs L=>∃ (x4:(List Jw)),Ve.c1 x4 Q∧rs=[.row v1 156 Vc x4]∧L=mkL [(4,(.eq v1))]) ?_ ?_
  ·refine At.seq (At.region (At.d R R R R (jb (x:=(.tv (kSlice kSegment) l1)) (ja R)) ?_))
   refine At.d R R R R (jt (ja R) Tryz.underlying27) ?_
   refine At.d R R R R (jb (x:=(.tv (kInt .i64) (0:Int))) (ji _ _)) ?_
   refine At.done (At.vl (At.block ?_))
   obtain ⟨n3,hF⟩:=hF
   refine At.w [0] R [(4,(.eq v1)),(20,(.tv (kSlice kSegment) l1)),(21,(.tv (kInt .i64) (l1.length:Int))),(22,(.tv (kInt .i64) (0:Int)))] ⟨R,R,R,R,trivial⟩ ?_
   refine At.loop (fun m rs L=>∃ (x57:(List Jw)) (t33:Int),W.iter2 (Ve.l3 l1 (Ve.c1)) m x57 t33 Q∧rs=[.row v1 156 Vc x57]∧L=mkL [(4,(.eq v1)),(20,(.tv (kSlice kSegment) l1)),(21,(.tv (kInt .i64) (l1.length:Int))),(22,(.tv (kInt .i64) t33))]) ?_ ?_ (m:=n3) ⟨(List.replicate (l1.length:Int).toNat Jz),(0:Int),hF,R,R⟩
   ·rintro rs L ⟨_,_,hF,_,_⟩;exact hF
   ·rintro m3 _ _ ⟨x57,t33,hF,rfl,rfl⟩
    replace hF:=W.iter2_s hF
    unfold Ve.l3 at hF
    refine At.seq (At.region (At.d R R R R (jk (ja R) (ja R) vg) ?_))
    refine At.done (At.vl (At.seq ?_))
    refine At.cond (ja R) (fun hb56=>?_) (fun hb56=>?_)
    ·replace hF:=W.ite_t hb56 hF
     refine At.skip (At.vl (At.seq (At.block (At.seq (At.region (At.d R R R R (jb (x:=(.tv (kInt .i64) t33)) (ja R)) ?_))))))
     obtain ⟨hq73,hF⟩:=hF
     refine At.d R R R R (vj zSegment (ja R) (ja R) Tryz.underlying27 ty_39 hq73) ?_
     refine At.d R R R R (vw (K:=kSegment) (ja R) ty_39) ?_
     refine At.f R (eff_alloc R R R tz_39) ?_
     rintro _ _ ⟨g26,rfl,rfl⟩
     refine At.d R R R R (jd (x:=(.tv (kInt .i64) t33)) (ja R)) ?_
     refine At.f R (jz R R (ja R) 0 R (Sub.self kSegment) ty_39 (ja R)) ?_
     rintro _ _ ⟨rfl,rfl⟩
     refine At.done (At.vl ?_)
     refine At.draw mixed [0,1] R [[],[20]] (fun φ w hgd=>?_)
     replace hF:=W.vq hF
     refine AtH.take [0,1] hgd 0 R R R R (D':=#[Y,N,N,N,N,N,N,N,N,N,N,N,N,N,N,N,N,N,N,N,N]) (by kernel_rfl) (fun _ _ _ _ h=>h) R (jb (x:=(.eq v1)) (ja R)) ?_
     refine AtH.take [0,1] hgd 1 R R R R (D':=#[Y,Y,N,N,N,N,N,N,N,N,N,N,N,N,N,N,N,N,N,N,N]) (by kernel_rfl) (fun _ _ _ _ h=>h) R (jb (x:=(.tv (kInt .i64) t33)) (ja R)) ?_
     refine AtH.take [0,1] hgd 2 R R R R (D':=#[Y,Y,Y,N,N,N,N,N,N,N,N,N,N,N,N,N,N,N,N,N,N]) (by kernel_rfl) (fun _ _ _ _ h=>h) R (jb (x:=(.tv (kInt .i64) t33)) (ja R)) ?_
     refine AtH.take [0,1] hgd 3 R R R R (D':=#[Y,Y,Y,Y,N,N,N,N,N,N,N,N,N,N,N,N,N,N,N,N,N]) (by kernel_rfl) (fun _ _ _ _ h=>h) R (jc (ja R) 0 R (Sub.self kSegment) ty_39) ?_
     refine AtH.take [0,1] hgd 4 R R R R (D':=#[Y,Y,Y,Y,Y,N,N,N,N,N,N,N,N,N,N,N,N,N,N,N,N]) (by kernel_rfl) (fun _ _ _ _ h=>h) R (je (ja R) qe) ?_
     refine AtH.take [0,1] hgd 5 R R R R (D':=#[Y,Y,Y,Y,Y,Y,N,N,N,N,N,N,N,N,N,N,N,N,N,N,N]) (by kernel_rfl) (fun _ _ _ _ h=>h) R (je (ja R) wa) ?_
     refine AtH.take [0,1] hgd 6 R R R R (D':=#[Y,Y,Y,Y,Y,Y,Y,N,N,N,N,N,N,N,N,N,N,N,N,N,N]) (by kernel_rfl) (fun _ _ _ _ h=>h) R (jc (ja R) 0 R ym ty_3) ?_
     refine AtH.take [0,1] hgd 7 R R R R (D':=#[Y,Y,Y,Y,Y,Y,Y,Y,N,N,N,N,N,N,N,N,N,N,N,N,N]) (by kernel_rfl) (fun _ _ _ _ h=>h) R (je (ja R) ql) ?_
     refine AtH.take [0,1] hgd 8 R R R R (D':=#[Y,Y,Y,Y,Y,Y,Y,Y,Y,N,N,N,N,N,N,N,N,N,N,N,N]) (by kernel_rfl) (fun _ _ _ _ h=>h) R (je (ja R) wa) ?_
     refine AtH.take [0,1] hgd 9 R R R R (D':=#[Y,Y,Y,Y,Y,Y,Y,Y,Y,Y,N,N,N,N,N,N,N,N,N,N,N]) (by kernel_rfl) (fun _ _ _ _ h=>h) R (jc (ja R) 0 R yl ty_3) ?_
     refine AtH.take [0,1] hgd 11 R R R R (D':=#[Y,Y,Y,Y,Y,Y,Y,Y,Y,Y,N,Y,N,N,N,N,N,N,N,N,N]) (by kernel_rfl) (fun _ _ _ _ h=>h) R (je (ja R) qe) ?_
     refine AtH.take [0,1] hgd 12 R R R R (D':=#[Y,Y,Y,Y,Y,Y,Y,Y,Y,Y,N,Y,Y,N,N,N,N,N,N,N,N]) (by kernel_rfl) (fun _ _ _ _ h=>h) R (je (ja R) zf) ?_
     refine AtH.take [0,1] hgd 13 R R R R (D':=#[Y,Y,Y,Y,Y,Y,Y,Y,Y,Y,N,Y,Y,Y,N,N,N,N,N,N,N]) (by kernel_rfl) (fun _ _ _ _ h=>h) R (jc (ja R) 0 R sub_Segment_0_1 ty_3) ?_
     refine AtH.take [0,1] hgd 14 R R R R (D':=#[Y,Y,Y,Y,Y,Y,Y,Y,Y,Y,N,Y,Y,Y,Y,N,N,N,N,N,N]) (by kernel_rfl) (fun _ _ _ _ h=>h) R (je (ja R) ql) ?_
     refine AtH.take [0,1] hgd 15 R R R R (D':=#[Y,Y,Y,Y,Y,Y,Y,Y,Y,Y,N,Y,Y,Y,Y,Y,N,N,N,N,N]) (by kernel_rfl) (fun _ _ _ _ h=>h) R (je (ja R) zf) ?_
     refine AtH.take [0,1] hgd 16 R R R R (D':=#[Y,Y,Y,Y,Y,Y,Y,Y,Y,Y,N,Y,Y,Y,Y,Y,Y,N,N,N,N]) (by kernel_rfl) (fun _ _ _ _ h=>h) R (jc (ja R) 0 R sub_Segment_1_1 ty_3) ?_
     refine AtH.all1 10 (by kernel_rfl) ?_
     refine AtH.f [(0,0),(1,1)] R R R R R R (jn R R jp (jq R en_103 (jf (ja R) (jf (ja R) jg))) (zk.ok hF) (by rintro _ _ ⟨r,_,rfl,_⟩;exact (flat_tv yv))) (D':=#[Y,Y,Y,Y,Y,Y,Y,Y,Y,Y,Y,Y,Y,Y,Y,Y,Y,N,N,N,N]) (by kernel_rfl) (by kernel_rfl) ?_
     rintro _ _ ⟨_,_,⟨r47,hF,rfl,rfl⟩,rfl,rfl⟩
     refine ⟨_,.inr ⟨R,(flat_tv yv)⟩,?_⟩
     replace hF:=W.vq hF
     refine AtH.all1 17 (by kernel_rfl) ?_
     refine AtH.f [(0,0),(1,1)] R R R R R R (jn R R jp (jq R en_103 (jf (ja R) (jf (ja R) jg))) (zk.ok hF) (by rintro _ _ ⟨r,_,rfl,_⟩;exact (flat_tv yv))) (D':=#[Y,Y,Y,Y,Y,Y,Y,Y,Y,Y,Y,Y,Y,Y,Y,Y,Y,Y,N,N,N]) (by kernel_rfl) (by kernel_rfl) ?_
     rintro _ _ ⟨_,_,⟨r48,hF,rfl,rfl⟩,rfl,rfl⟩
     refine ⟨_,.inr ⟨R,(flat_tv yv)⟩,?_⟩
     obtain ⟨hq74,hF⟩:=hF
     refine AtH.take [0,1] hgd 18 R R R R (D':=#[Y,Y,Y,Y,Y,Y,Y,Y,Y,Y,Y,Y,Y,Y,Y,Y,Y,Y,Y,N,N]) (by kernel_rfl) (fun _ _ _ _ h=>h) R (vd (jr (ja R) (jr (ja R) (jr (ja R) (jr (ja R) js)))) zr_156 bd_156 R (fills_cons R yf (fills_cons R sub_sweep_item_1 (fills_cons R zx (fills_cons R sub_sweep_item_3 fills_nil))))) ?_
     refine AtH.take [0,1] hgd 19 R R R R (D':=#[Y,Y,Y,Y,Y,Y,Y,Y,Y,Y,Y,Y,Y,Y,Y,Y,Y,Y,Y,Y,N]) (by kernel_rfl) (fun _ _ _ _ h=>h) R (does_idx_row (ja R) 1 R (ja R) Tryz.underlying151 ty_156 hq74) ?_
     refine AtH.all1 20 (by kernel_rfl) ?_
     refine AtH.eff0 [(0,0)] R R R R R (eff_store_elem R R (ja R) 1 R t33 0 R Jz hq74 (Sub.self Vc) ty_156 (ja R)) (D':=#[Y,Y,Y,Y,Y,Y,Y,Y,Y,Y,Y,Y,Y,Y,Y,Y,Y,Y,Y,Y,Y]) (by kernel_rfl) (by kernel_rfl) ?_
     rintro _ _ ⟨rfl,rfl⟩
     refine AtH.done (by kernel_rfl) ?_
     refine At.n ?_
     refine At.vl (At.region (At.d R R R R (jk (ja R) (ji _ _) vf) ?_))
     refine At.d R R R R (jb (x:=(.tv (kInt .i64) (w64 (t33+(1:Int))))) (ja R)) ?_
     refine At.done (At.vl ?_)
     refine At.w [1] R [(4,(.eq v1)),(20,(.tv (kSlice kSegment) l1)),(21,(.tv (kInt .i64) (l1.length:Int))),(22,(.tv (kInt .i64) (w64 (t33+(1:Int)))))] ⟨R,R,R,R,trivial⟩ (At.r ⟨(x57.set t33.toNat (⟨t33,(rd zSegment l1 t33),r47,r48⟩:Jw)),(w64 (t33+(1:Int))),hF,R,R⟩)
    ·replace hF:=W.ite_f hb56 hF
     refine At.exit ?_
     refine At.x (At.x ?_)
     refine At.h ?_
     refine At.vl ?_
     refine At.w [0] R [(4,(.eq v1))] ⟨R,trivial⟩ (At.r ⟨x57,hF,R,R⟩)
  ·rintro _ _ ⟨x4,hF,rfl,rfl⟩
   unfold Ve.c1 at hF
   refine At.seq (At.region (At.d R R R R (jb (x:=(.eq v1)) (ja R)) ?_))
   replace hF:=W.vq hF
   refine At.f R (jo R R (jq R en_104 (jf (ja R) (jf (opd_fn 105) jg))) [0] R (Vw.ok hF)) ?_
   rintro _ _ ⟨_,_,⟨r5,hF,rfl,rfl⟩,rfl,rfl⟩
   refine At.done (At.vl (At.seq (At.region (At.d R R R R (jd (x:=(.eq (.slice none 0 0))) (opd_eq _)) ?_))))
   refine At.done (At.vl (At.seq (At.region (At.d R R R R (jd (x:=(.eq (.slice none 0 0))) (opd_eq _)) ?_))))
   refine At.done (At.vl ?_)
   refine At.cut (fun rs L=>∃ (x23:(List Meet)) (v34:Value),Ve.c2 x23 Q∧rs=[.row v34 125 kMeet x23]∧L=mkL [(7,(.eq v34))]) ?_ ?_
   ·refine At.seq (At.region (At.d R R R R (jb (x:=(.eq v1)) (ja R)) ?_))
    refine At.d R R R R (does_len_row (ja R) 0 R Tryz.underlying151) ?_
    refine At.d R R R R (jb (x:=(.tv (kInt .i64) (0:Int))) (ji _ _)) ?_
    refine At.done (At.vl (At.block ?_))
    refine At.nilrow 125 kMeet ?_
    refine At.nilrow 156 Vc ?_
    obtain ⟨n2,hF⟩:=hF
    refine At.w [1,0,2] R [(7,(.eq (.slice none 0 0))),(8,(.eq (.slice none 0 0))),(50,(.eq v1)),(51,(.tv (kInt .i64) (r5.length:Int))),(52,(.tv (kInt .i64) (0:Int)))] ⟨R,R,R,R,R,trivial⟩ ?_
    refine At.loop (fun m rs L=>∃ (x40:(List Meet)) (v65:Value) (x41:(List Jw)) (v66:Value) (t21:Int),W.iter3 (Ve.l1 r5 (Ve.c2)) m x40 x41 t21 Q∧rs=[.row v65 125 kMeet x40,.row v66 156 Vc x41,.row v1 156 Vc r5]∧L=mkL [(7,(.eq v65)),(8,(.eq v66)),(50,(.eq v1)),(51,(.tv (kInt .i64) (r5.length:Int))),(52,(.tv (kInt .i64) t21))]) ?_ ?_ (m:=n2) ⟨([]:List Meet),(.slice none 0 0),([]:List Jw),(.slice none 0 0),(0:Int),hF,R,R⟩
    ·rintro rs L ⟨_,_,_,_,_,hF,_,_⟩;exact hF
    ·rintro m1 _ _ ⟨x40,v65,x41,v66,t21,hF,rfl,rfl⟩
     replace hF:=W.iter3_s hF
     unfold Ve.l1 at hF
     refine At.seq (At.region (At.d R R R R (jk (ja R) (ja R) vg) ?_))
     refine At.done (At.vl (At.seq ?_))
     refine At.cond (ja R) (fun hb32=>?_) (fun hb32=>?_)
     ·replace hF:=W.ite_t hb32 hF
      refine At.skip (At.vl ?_)
      refine At.cut (fun rs L=>∃ (x46:(List Meet)) (v78:Value) (x47:(List Jw)) (v79:Value),Ve.c3 t21 (W.iter3 (Ve.l1 r5 (Ve.c2)) m1) x46 x47 Q∧rs=[.row v78 125 kMeet x46,.row v79 156 Vc x47,.row v1 156 Vc r5]∧L=mkL [(7,(.eq v78)),(8,(.eq v79)),(50,(.eq v1)),(51,(.tv (kInt .i64) (r5.length:Int))),(52,(.tv (kInt .i64) t21))]) ?_ ?_
      ·refine At.block (At.seq (At.region ?_))
       obtain ⟨hq51,hF⟩:=hF
       refine At.d R R R R (does_idx_row (ja R) 2 R (ja R) Tryz.underlying151 ty_156 hq51) ?_
       obtain ⟨hq52,hF⟩:=hF
       refine At.d R R R R (Jh (ja R) 2 R t21 0 R Jz hq52 (Sub.self Vc) ty_156) ?_
       refine At.f R (eff_alloc R R R tz_156) ?_
       rintro _ _ ⟨g18,rfl,rfl⟩
       refine At.f R (jz R R (ja R) 0 R (Sub.self Vc) ty_156 (ja R)) ?_
       rintro _ _ ⟨rfl,rfl⟩
       refine At.done (At.vl (At.seq (At.region (At.d R R R R (jb (x:=(.eq v66)) (ja R)) ?_))))
       refine At.d R R R R (does_cls (firsts:=[]) (caps:=[.tmp 10]) R (jf (ja R) jg)) ?_
       replace hF:=W.vq hF
       refine At.f R (jo R R (jq R en_107 (jf (ja R) (jf (ja R) jg))) [2,0] R (vv.ok hF)) ?_
       rintro _ _ ⟨_,_,⟨r32,v80,hF,rfl,rfl⟩,rfl,rfl⟩
       refine At.d R R R R (jd (x:=(.eq v80)) (ja R)) ?_
       refine At.done (At.vl ?_)
       refine At.cut (fun rs L=>∃ (x51:(List Meet)) (v88:Value),Ve.c4 r5 t21 (Ve.c3 t21 (W.iter3 (Ve.l1 r5 (Ve.c2)) m1)) r32 x51 Q∧rs=[.row v88 125 kMeet x51,.row v80 156 Vc r32,.box g18 156 Vc (rd Jz r5 t21),.row v1 156 Vc r5]∧L=mkL [(7,(.eq v88)),(8,(.eq v80)),(10,(.eq (.pointer (some ⟨g18,0,none⟩)))),(50,(.eq v1)),(51,(.tv (kInt .i64) (r5.length:Int))),(52,(.tv (kInt .i64) t21))]) ?_ ?_
       ·refine At.seq (At.region (At.d R R R R (jb (x:=(.eq v80)) (ja R)) ?_))
        refine At.d R R R R (does_len_row (ja R) 0 R Tryz.underlying151) ?_
        refine At.d R R R R (jb (x:=(.tv (kInt .i64) (0:Int))) (ji _ _)) ?_
        refine At.done (At.vl (At.block ?_))
        obtain ⟨n1,hF⟩:=hF
        refine At.w [3,0,1,5] R [(7,(.eq v65)),(8,(.eq v80)),(10,(.eq (.pointer (some ⟨g18,0,none⟩)))),(50,(.eq v1)),(51,(.tv (kInt .i64) (r5.length:Int))),(52,(.tv (kInt .i64) t21)),(59,(.eq v80)),(60,(.tv (kInt .i64) (r32.length:Int))),(61,(.tv (kInt .i64) (0:Int)))] ⟨R,R,R,R,R,R,R,R,R,trivial⟩ ?_
        refine At.loop (fun m rs L=>∃ (x54:(List Meet)) (v97:Value) (t30:Int),W.iter2 (Ve.l2 r5 t21 r32 (Ve.c4 r5 t21 (Ve.c3 t21 (W.iter3 (Ve.l1 r5 (Ve.c2)) m1)) r32)) m x54 t30 Q∧rs=[.row v97 125 kMeet x54,.row v80 156 Vc r32,.box g18 156 Vc (rd Jz r5 t21),.row v1 156 Vc r5]∧L=mkL [(7,(.eq v97)),(8,(.eq v80)),(10,(.eq (.pointer (some ⟨g18,0,none⟩)))),(50,(.eq v1)),(51,(.tv (kInt .i64) (r5.length:Int))),(52,(.tv (kInt .i64) t21)),(59,(.eq v80)),(60,(.tv (kInt .i64) (r32.length:Int))),(61,(.tv (kInt .i64) t30))]) ?_ ?_ (m:=n1) ⟨x40,v65,(0:Int),hF,R,R⟩
        ·rintro rs L ⟨_,_,_,hF,_,_⟩;exact hF
        ·rintro m2 _ _ ⟨x54,v97,t30,hF,rfl,rfl⟩
         replace hF:=W.iter2_s hF
         unfold Ve.l2 at hF
         refine At.seq (At.region (At.d R R R R (jk (ja R) (ja R) vg) ?_))
         refine At.done (At.vl (At.seq ?_))
         refine At.cond (ja R) (fun hb51=>?_) (fun hb51=>?_)
         ·replace hF:=W.ite_t hb51 hF
          refine At.skip (At.vl (At.seq (At.block (At.seq (At.region ?_)))))
          obtain ⟨hq66,hF⟩:=hF
          refine At.d R R R R (does_idx_row (ja R) 1 R (ja R) Tryz.underlying151 ty_156 hq66) ?_
          obtain ⟨hq67,hF⟩:=hF
          refine At.d R R R R (Jh (ja R) 1 R t30 0 R Jz hq67 (Sub.self Vc) ty_156) ?_
          refine At.f R (eff_alloc R R R tz_156) ?_
          rintro _ _ ⟨g23,rfl,rfl⟩
          refine At.f R (jz R R (ja R) 0 R (Sub.self Vc) ty_156 (ja R)) ?_
          rintro _ _ ⟨rfl,rfl⟩
          refine At.done (At.vl (At.seq (At.seq (At.region (At.d R R R R (je (ja R) fa_156_3) ?_)))))
          refine At.d R R R R (jc (ja R) 3 R sub_sweep_item_3 ty_153) ?_
          refine At.d R R R R (je (ja R) fa_156_3) ?_
          refine At.d R R R R (jc (ja R) 0 R sub_sweep_item_3 ty_153) ?_
          replace hF:=W.vq hF
          refine At.f R (jn R R jp (jq R en_109 (jf (ja R) (jf (ja R) jg))) (wz.ok hF) (by rintro _ _ ⟨r,_,rfl,_⟩;exact vp)) ?_
          rintro _ _ ⟨_,_,⟨r41,hF,rfl,rfl⟩,rfl,rfl⟩
          refine At.d R R R R (ve (ja R)) ?_
          refine At.done (At.vl ?_)
          refine At.cond (ja R) (fun hb52=>?_) (fun hb52=>?_)
          ·replace hF:=W.ite_t hb52 hF
           refine At.exit ?_
           refine At.x ?_
           refine At.h ?_
           refine At.vl (At.region (At.d R R R R (jk (ja R) (ji _ _) vf) ?_))
           refine At.d R R R R (jb (x:=(.tv (kInt .i64) (w64 (t30+(1:Int))))) (ja R)) ?_
           refine At.done (At.vl ?_)
           refine At.w [1,2,3,4] R [(7,(.eq v97)),(8,(.eq v80)),(10,(.eq (.pointer (some ⟨g18,0,none⟩)))),(50,(.eq v1)),(51,(.tv (kInt .i64) (r5.length:Int))),(52,(.tv (kInt .i64) t21)),(59,(.eq v80)),(60,(.tv (kInt .i64) (r32.length:Int))),(61,(.tv (kInt .i64) (w64 (t30+(1:Int)))))] ⟨R,R,R,R,R,R,R,R,R,trivial⟩ (At.r ⟨x54,v97,(w64 (t30+(1:Int))),hF,R,R⟩)
          ·replace hF:=W.ite_f hb52 hF
           refine At.skip (At.vl (At.seq (At.region (At.d R R R R (je (ja R) fa_156_1) ?_))))
           refine At.d R R R R (jc (ja R) 3 R sub_sweep_item_1 ty_39) ?_
           refine At.d R R R R (je (ja R) fa_156_1) ?_
           refine At.d R R R R (jc (ja R) 0 R sub_sweep_item_1 ty_39) ?_
           replace hF:=W.vq hF
           refine At.f R (jn R R jp (jq R en_23 (jf (ja R) (jf (ja R) jg))) (wq.ok hF) (by rintro _ _ ⟨r,_,rfl,_⟩;exact flat_int)) ?_
           rintro _ _ ⟨_,_,⟨r42,hF,rfl,rfl⟩,rfl,rfl⟩
           refine At.d R R R R (jd (x:=(.tv (kInt .i64) r42)) (ja R)) ?_
           refine At.done (At.vl (At.seq (At.region (At.d R R R R (jb (x:=(.tv (kInt .i64) r42)) (ja R)) ?_))))
           refine At.d R R R R (jk (ja R) (ji _ _) bin_neq) ?_
           refine At.done (At.vl ?_)
           refine At.cond (ja R) (fun hb53=>?_) (fun hb53=>?_)
           ·replace hF:=W.ite_t hb53 hF
            refine At.region (At.d R R R R (jb (x:=(.eq v97)) (ja R)) ?_)
            refine At.d R R R R (je (ja R) fa_156_0) ?_
            refine At.d R R R R (jc (ja R) 3 R yf ty_3) ?_
            refine At.d R R R R (je (ja R) fa_156_0) ?_
            refine At.d R R R R (jc (ja R) 0 R yf ty_3) ?_
            refine At.d R R R R (does_min (ja R) (ja R)) ?_
            refine At.d R R R R (je (ja R) fa_156_0) ?_
            refine At.d R R R R (jc (ja R) 3 R yf ty_3) ?_
            refine At.d R R R R (je (ja R) fa_156_0) ?_
            refine At.d R R R R (jc (ja R) 0 R yf ty_3) ?_
            refine At.d R R R R (does_max (ja R) (ja R)) ?_
            refine At.d R R R R (jb (x:=(.tv (kInt .i64) r42)) (ja R)) ?_
            refine At.d R R R R (vd (jr (ja R) (jr (ja R) (jr (ja R) js))) zr_125 bd_125 R (fills_cons R sub_Meet_0 (fills_cons R sub_Meet_1 (fills_cons R sub_Meet_2 fills_nil)))) ?_
            refine At.f R (vc R R R (os:=[.tmp 90]) R sl_121 (xs:=([(⟨(if ((rd Jz r32 t30).index)<((rd Jz r5 t21).index) then ((rd Jz r32 t30).index) else ((rd Jz r5 t21).index)),(if ((rd Jz r5 t21).index)<((rd Jz r32 t30).index) then ((rd Jz r32 t30).index) else ((rd Jz r5 t21).index)),r42⟩:Meet)]:List Meet)) (jf (ja R) jg) R R) ?_
            rintro _ _ ⟨v98,rfl,rfl⟩
            obtain ⟨hq68,hF⟩:=hF
            refine At.f R (eff_append_row R R R 2 0 R R (ja R) (ja R) sl_121 hq68) ?_
            rintro _ _ ⟨v99,rfl,rfl⟩
            refine At.d R R R R (jd (x:=(.eq v99)) (ja R)) ?_
            refine At.done ?_
            refine At.n ?_
            refine At.vl (At.region (At.d R R R R (jk (ja R) (ji _ _) vf) ?_))
            refine At.d R R R R (jb (x:=(.tv (kInt .i64) (w64 (t30+(1:Int))))) (ja R)) ?_
            refine At.done (At.vl ?_)
            refine At.w [2,3,4,5] R [(7,(.eq v99)),(8,(.eq v80)),(10,(.eq (.pointer (some ⟨g18,0,none⟩)))),(50,(.eq v1)),(51,(.tv (kInt .i64) (r5.length:Int))),(52,(.tv (kInt .i64) t21)),(59,(.eq v80)),(60,(.tv (kInt .i64) (r32.length:Int))),(61,(.tv (kInt .i64) (w64 (t30+(1:Int)))))] ⟨R,R,R,R,R,R,R,R,R,trivial⟩ (At.r ⟨(x54++([(⟨(if ((rd Jz r32 t30).index)<((rd Jz r5 t21).index) then ((rd Jz r32 t30).index) else ((rd Jz r5 t21).index)),(if ((rd Jz r5 t21).index)<((rd Jz r32 t30).index) then ((rd Jz r32 t30).index) else ((rd Jz r5 t21).index)),r42⟩:Meet)]:List Meet)),v99,(w64 (t30+(1:Int))),hF,R,R⟩)
           ·replace hF:=W.ite_f hb53 hF
            refine At.skip ?_
            refine At.n ?_
            refine At.vl (At.region (At.d R R R R (jk (ja R) (ji _ _) vf) ?_))
            refine At.d R R R R (jb (x:=(.tv (kInt .i64) (w64 (t30+(1:Int))))) (ja R)) ?_
            refine At.done (At.vl ?_)
            refine At.w [1,2,3,4] R [(7,(.eq v97)),(8,(.eq v80)),(10,(.eq (.pointer (some ⟨g18,0,none⟩)))),(50,(.eq v1)),(51,(.tv (kInt .i64) (r5.length:Int))),(52,(.tv (kInt .i64) t21)),(59,(.eq v80)),(60,(.tv (kInt .i64) (r32.length:Int))),(61,(.tv (kInt .i64) (w64 (t30+(1:Int)))))] ⟨R,R,R,R,R,R,R,R,R,trivial⟩ (At.r ⟨x54,v97,(w64 (t30+(1:Int))),hF,R,R⟩)
         ·replace hF:=W.ite_f hb51 hF
          refine At.exit ?_
          refine At.x (At.x ?_)
          refine At.h ?_
          refine At.vl ?_
          refine At.w [0,1,2,3] R [(7,(.eq v97)),(8,(.eq v80)),(10,(.eq (.pointer (some ⟨g18,0,none⟩)))),(50,(.eq v1)),(51,(.tv (kInt .i64) (r5.length:Int))),(52,(.tv (kInt .i64) t21))] ⟨R,R,R,R,R,R,trivial⟩ (At.r ⟨x54,v97,hF,R,R⟩)
       ·rintro _ _ ⟨x51,v88,hF,rfl,rfl⟩
        unfold Ve.c4 at hF
        refine At.region (At.d R R R R (jb (x:=(.eq v80)) (ja R)) ?_)
        refine At.d R R R R (jc (ja R) 2 R (Sub.self Vc) ty_156) ?_
        refine At.f R (vc R R R (os:=[.tmp 95]) R sl_151 (xs:=([(rd Jz r5 t21)]:List Jw)) (jf (ja R) jg) R R) ?_
        rintro _ _ ⟨v89,rfl,rfl⟩
        obtain ⟨hq59,hF⟩:=hF
        refine At.f R (eff_append_row R R R 2 0 R R (ja R) (ja R) sl_151 hq59) ?_
        rintro _ _ ⟨v90,rfl,rfl⟩
        refine At.d R R R R (jd (x:=(.eq v90)) (ja R)) ?_
        refine At.done ?_
        refine At.n ?_
        refine At.vl ?_
        refine At.w [1,2,4] R [(7,(.eq v88)),(8,(.eq v90)),(50,(.eq v1)),(51,(.tv (kInt .i64) (r5.length:Int))),(52,(.tv (kInt .i64) t21))] ⟨R,R,R,R,R,trivial⟩ (At.r ⟨x51,v88,(r32++([(rd Jz r5 t21)]:List Jw)),v90,hF,R,R⟩)
      ·rintro _ _ ⟨x46,v78,x47,v79,hF,rfl,rfl⟩
       unfold Ve.c3 at hF
       refine At.region (At.d R R R R (jk (ja R) (ji _ _) vf) ?_)
       refine At.d R R R R (jb (x:=(.tv (kInt .i64) (w64 (t21+(1:Int))))) (ja R)) ?_
       refine At.done (At.vl ?_)
       refine At.w [0,1,2] R [(7,(.eq v78)),(8,(.eq v79)),(50,(.eq v1)),(51,(.tv (kInt .i64) (r5.length:Int))),(52,(.tv (kInt .i64) (w64 (t21+(1:Int)))))] ⟨R,R,R,R,R,trivial⟩ (At.r ⟨x46,v78,x47,v79,(w64 (t21+(1:Int))),hF,R,R⟩)
     ·replace hF:=W.ite_f hb32 hF
      refine At.exit ?_
      refine At.x (At.x ?_)
      refine At.h ?_
      refine At.vl ?_
      refine At.w [0] R [(7,(.eq v65))] ⟨R,trivial⟩ (At.r ⟨x40,v65,hF,R,R⟩)
   ·rintro _ _ ⟨x23,v34,hF,rfl,rfl⟩
    unfold Ve.c2 at hF
    refine At.seq (At.region (At.d R R R R (jb (x:=(.eq v34)) (ja R)) ?_))
    replace hF:=W.vq hF
    refine At.f R (jo R R (jq R en_110 (jf (ja R) (jf (opd_fn 111) jg))) [0] R (qb.ok hF)) ?_
    rintro _ _ ⟨_,_,⟨r16,hF,rfl,rfl⟩,rfl,rfl⟩
    refine At.done (At.vl (At.seq (At.region (At.d R R R R (jb (x:=(.eq v34)) (ja R)) ?_))))
    refine At.d R R R R (jd (x:=(.eq v34)) (ja R)) ?_
    refine At.d R R R R (jd (x:=(.tv (kInt .i64) (0:Int))) (ji _ _)) ?_
    refine At.done (At.vl (At.ret ?_))
    exact At.ret_2 rfl (rv_tmp rfl) (rv_tmp rfl) [0] rfl ⟨(r16,(0:Int)),_,hF,rfl,rfl⟩
def vu.c4 (t18:Int) (A1:(List ((Int×Int)×Int))→Int→W (List ((Int×Int)×Int))) (x33:(List ((Int×Int)×Int))):W (List ((Int×Int)×Int)):=A1 x33 (w64 (t18+(1:Int)))
def vu.l2 (all1:(List Segment)) (list1:(List Int)) (t18:Int) (K4:(List ((Int×Int)×Int))→W (List ((Int×Int)×Int))) (A2:(List ((Int×Int)×Int))→Int→W (List ((Int×Int)×Int))) (x36:(List ((Int×Int)×Int))) (t24:Int):W (List ((Int×Int)×Int)):=W.ite (decide (t24<((cut_l list1 (w64 (t18+(1:Int)))).length:Int))) (W.req (0≤t24∧t24<((cut_l list1 (w64 (t18+(1:Int)))).length:Int)) (W.req (0≤(rd (0:Int) list1 t18)∧(rd (0:Int) list1 t18)<(all1.length:Int)) (W.req (0≤(rd (0:Int) (cut_l list1 (w64 (t18+(1:Int)))) t24)∧(rd (0:Int) (cut_l list1 (w64 (t18+(1:Int)))) t24)<(all1.length:Int)) (W.bind (wq.F (rd zSegment all1 (rd (0:Int) list1 t18)) (rd zSegment all1 (rd (0:Int) (cut_l list1 (w64 (t18+(1:Int)))) t24))) (fun r12=>W.ite (r12 != (0:Int)) (A2 (mset ((rd (0:Int) list1 t18),(rd (0:Int) (cut_l list1 (w64 (t18+(1:Int)))) t24)) r12 x36) (w64 (t24+(1:Int)))) (A2 x36 (w64 (t24+(1:Int))))))))) (K4 x36)
def vu.l1 (all1:(List Segment)) (list1:(List Int)) (A1:(List ((Int×Int)×Int))→Int→W (List ((Int×Int)×Int))) (x29:(List ((Int×Int)×Int))) (t18:Int):W (List ((Int×Int)×Int)):=W.ite (decide (t18<(list1.length:Int))) (W.req (0≤t18∧t18<(list1.length:Int)) (W.req (0≤(w64 (t18+(1:Int)))∧(w64 (t18+(1:Int)))≤(list1.length:Int)) (W.ex fun n=>W.iter2 (vu.l2 all1 list1 t18 (vu.c4 t18 A1)) n x29 (0:Int)))) (W.ret x29)
def vu.c3 (self:(List Segment)→(List Int)→(List ((Int×Int)×Int))→W (List ((Int×Int)×Int))) (all1:(List Segment)) (list1:(List Int)) (found1:(List ((Int×Int)×Int))) (x17:(List Int)) (x18:(List Int)):W (List ((Int×Int)×Int)):=W.ite ((decide ((x17.length:Int)<(list1.length:Int)))&&(decide ((x18.length:Int)<(list1.length:Int)))) (W.bind (self all1 x17 found1) (fun r2=>W.bind (self all1 x18 r2) (fun r3=>W.ret r3))) (W.ex fun n=>W.iter2 (vu.l1 all1 list1) n found1 (0:Int))
def vu.c5 (all1:(List Segment)) (list1:(List Int)) (low6:Int) (high6:Int) (x44:(List Int)) (t27:Int) (A3:(List Int)→(List Int)→Int→W (List ((Int×Int)×Int))) (x45:(List Int)):W (List ((Int×Int)×Int)):=W.req (0≤(rd (0:Int) list1 t27)∧(rd (0:Int) list1 t27)<(all1.length:Int)) (W.ite (decide ((w64 (low6+(w64 (Int.tdiv (w64 (high6-low6)) (2:Int)))))<(if (((rd zSegment all1 (rd (0:Int) list1 t27)).A).X)<(((rd zSegment all1 (rd (0:Int) list1 t27)).B).X) then (((rd zSegment all1 (rd (0:Int) list1 t27)).B).X) else (((rd zSegment all1 (rd (0:Int) list1 t27)).A).X)))) (W.req ((x44.length+([(rd (0:Int) list1 t27)]:List Int).length)*8≤140737488355328∧x44.length+([(rd (0:Int) list1 t27)]:List Int).length≤140737488355328) (A3 x45 (x44++([(rd (0:Int) list1 t27)]:List Int)) (w64 (t27+(1:Int))))) (A3 x45 x44 (w64 (t27+(1:Int)))))
def vu.l3 (all1:(List Segment)) (list1:(List Int)) (low6:Int) (high6:Int) (K3:(List Int)→(List Int)→W (List ((Int×Int)×Int))) (A3:(List Int)→(List Int)→Int→W (List ((Int×Int)×Int))) (x43:(List Int)) (x44:(List Int)) (t27:Int):W (List ((Int×Int)×Int)):=W.ite (decide (t27<(list1.length:Int))) (W.req (0≤t27∧t27<(list1.length:Int)) (W.req (0≤(rd (0:Int) list1 t27)∧(rd (0:Int) list1 t27)<(all1.length:Int)) (W.ite (decide ((if (((rd zSegment all1 (rd (0:Int) list1 t27)).B).X)<(((rd zSegment all1 (rd (0:Int) list1 t27)).A).X) then (((rd zSegment all1 (rd (0:Int) list1 t27)).B).X) else (((rd zSegment all1 (rd (0:Int) list1 t27)).A).X))≤(w64 (low6+(w64 (Int.tdiv (w64 (high6-low6)) (2:Int))))))) (W.req ((x43.length+([(rd (0:Int) list1 t27)]:List Int).length)*8≤140737488355328∧x43.length+([(rd (0:Int) list1 t27)]:List Int).length≤140737488355328) ((vu.c5 all1 list1 low6 high6 x44 t27 A3) (x43++([(rd (0:Int) list1 t27)]:List Int)))) ((vu.c5 all1 list1 low6 high6 x44 t27 A3) x43)))) (K3 x43 x44)
def vu.c2 (self:(List Segment)→(List Int)→(List ((Int×Int)×Int))→W (List ((Int×Int)×Int))) (all1:(List Segment)) (list1:(List Int)) (found1:(List ((Int×Int)×Int))) (low6:Int) (high6:Int):W (List ((Int×Int)×Int)):=W.ex fun n=>W.iter3 (vu.l3 all1 list1 low6 high6 (vu.c3 self all1 list1 found1)) n ([]:List Int) ([]:List Int) (0:Int)
def vu.c6 (x49:(List ((Int×Int)×Int))):W (List ((Int×Int)×Int)):=W.ret x49
def vu.l4 (list1:(List Int)) (r13:((List Meet)×Int)) (K6:(List ((Int×Int)×Int))→W (List ((Int×Int)×Int))) (A4:(List ((Int×Int)×Int))→Int→W (List ((Int×Int)×Int))) (x52:(List ((Int×Int)×Int))) (t33:Int):W (List ((Int×Int)×Int)):=W.ite (decide (t33<(r13.1.length:Int))) (W.req (0≤t33∧t33<(r13.1.length:Int)) (W.req (0≤t33∧t33<(r13.1.length:Int)) (W.req (0≤((rd zMeet r13.1 t33).A)∧((rd zMeet r13.1 t33).A)<(list1.length:Int)) (W.req (0≤((rd zMeet r13.1 t33).B)∧((rd zMeet r13.1 t33).B)<(list1.length:Int)) (A4 (mset ((rd (0:Int) list1 ((rd zMeet r13.1 t33).A)),(rd (0:Int) list1 ((rd zMeet r13.1 t33).B))) ((rd zMeet r13.1 t33).Kind) x52) (w64 (t33+(1:Int)))))))) (K6 x52)
def vu.c1 (self:(List Segment)→(List Int)→(List ((Int×Int)×Int))→W (List ((Int×Int)×Int))) (all1:(List Segment)) (list1:(List Int)) (found1:(List ((Int×Int)×Int))) (x4:(List Segment)) (low6:Int) (high6:Int):W (List ((Int×Int)×Int)):=W.ite (decide ((x4.length:Int)≤(20000:Int))) (W.bind (Ve.F x4) (fun r13=>W.ex fun n=>W.iter2 (vu.l4 list1 r13 (vu.c6)) n found1 (0:Int))) ((vu.c2 self all1 list1 found1 low6 high6))
def vu.c7 (all1:(List Segment)) (list1:(List Int)) (x55:(List Segment)) (t36:Int) (A5:(List Segment)→Int→Int→Int→W (List ((Int×Int)×Int))) (low12:Int) (high12:Int):W (List ((Int×Int)×Int)):=A5 (x55++([(rd zSegment all1 (rd (0:Int) list1 t36))]:List Segment)) (iMin [low12,(rd zSegment all1 (rd (0:Int) list1 t36)).A.X,(rd zSegment all1 (rd (0:Int) list1 t36)).B.X]) (iMax [high12,(rd zSegment all1 (rd (0:Int) list1 t36)).A.X,(rd zSegment all1 (rd (0:Int) list1 t36)).B.X]) (w64 (t36+(1:Int)))
def vu.l5 (all1:(List Segment)) (list1:(List Int)) (K1:(List Segment)→Int→Int→W (List ((Int×Int)×Int))) (A5:(List Segment)→Int→Int→Int→W (List ((Int×Int)×Int))) (x55:(List Segment)) (low11:Int) (high11:Int) (t36:Int):W (List ((Int×Int)×Int)):=W.ite (decide (t36<(list1.length:Int))) (W.req (0≤t36∧t36<(list1.length:Int)) (W.req (0≤(rd (0:Int) list1 t36)∧(rd (0:Int) list1 t36)<(all1.length:Int)) (W.req ((x55.length+([(rd zSegment all1 (rd (0:Int) list1 t36))]:List Segment).length)*32≤140737488355328∧x55.length+([(rd zSegment all1 (rd (0:Int) list1 t36))]:List Segment).length≤140737488355328) (W.ite (t36==(0:Int)) ((vu.c7 all1 list1 x55 t36 A5) (if ((rd zSegment all1 (rd (0:Int) list1 t36)).B.X)<((rd zSegment all1 (rd (0:Int) list1 t36)).A.X) then ((rd zSegment all1 (rd (0:Int) list1 t36)).B.X) else ((rd zSegment all1 (rd (0:Int) list1 t36)).A.X)) (if ((rd zSegment all1 (rd (0:Int) list1 t36)).A.X)<((rd zSegment all1 (rd (0:Int) list1 t36)).B.X) then ((rd zSegment all1 (rd (0:Int) list1 t36)).B.X) else ((rd zSegment all1 (rd (0:Int) list1 t36)).A.X))) ((vu.c7 all1 list1 x55 t36 A5) low11 high11))))) (K1 x55 low11 high11)
def vu.G (self:(List Segment)→(List Int)→(List ((Int×Int)×Int))→W (List ((Int×Int)×Int))) (all1:(List Segment)) (list1:(List Int)) (found1:(List ((Int×Int)×Int))):W (List ((Int×Int)×Int)):=W.ex fun n=>W.iter4 (vu.l5 all1 list1 (vu.c1 self all1 list1 found1)) n ([]:List Segment) (0:Int) (0:Int) (0:Int)
def vu.Fn:Nat→(List Segment)→(List Int)→(List ((Int×Int)×Int))→W (List ((Int×Int)×Int))
 | 0=>fun _ _ _=>W.fail
 | n+1=>vu.G (vu.Fn n)
def vu.F (all1:(List Segment)) (list1:(List Int)) (found1:(List ((Int×Int)×Int))):W (List ((Int×Int)×Int)):=W.ex fun n=>vu.Fn n all1 list1 found1
theorem vu.okn (n:Nat):∀ {all1:(List Segment)} {list1:(List Int)} {found1:(List ((Int×Int)×Int))} {g1:Nat} {Q:(List ((Int×Int)×Int))→Prop},vu.Fn n all1 list1 found1 Q→Con Tryz.prog 37 [.tv (kSlice kSegment) all1,.tv (kSlice (kInt .i64)) list1,.eq (.map (some g1))] [.map g1 (kPair (kInt .i64) (kInt .i64)) (kInt .i64) found1] (fun ta rs'=>∃ (r:(List ((Int×Int)×Int))),Q r∧ta=.eq (.tuple #[])∧rs'=[.map g1 (kPair (kInt .i64) (kInt .i64)) (kInt .i64) r]):=by
 induction n with
 | zero=>intro all1 list1 found1 g1 Q hF;exact False.elim hF
 | succ n ih=>
  intro all1 list1 found1 g1 Q hF
  replace hF:vu.G (vu.Fn n) all1 list1 found1 Q:=hF
  refine Con.i Tryz.func37 Tryz.ntmps37 R R (fun C=>?_)
  unfold vu.G at hF
  refine At.seq (At.region (At.d R R R R (jd (x:=(.eq (.slice none 0 0))) (opd_eq _)) ?_))
  refine At.done (At.vl (At.seq (At.region (At.d R R R R (jd (x:=(.tv (kInt .i64) (0:Int))) (ji _ _)) ?_))))
  refine At.d R R R R (jd (x:=(.tv (kInt .i64) (0:Int))) (ji _ _)) ?_
  refine At.done (At.vl ?_)
  refine At.cut (fun rs L=>∃ (x4:(List Segment)) (v8:Value) (low6:Int) (high6:Int),vu.c1 (vu.Fn n) all1 list1 found1 x4 low6 high6 Q∧rs=[.map g1 (kPair (kInt .i64) (kInt .i64)) (kInt .i64) found1,.row v8 39 kSegment x4]∧L=mkL [(0,(.tv (kSlice kSegment) all1)),(1,(.tv (kSlice (kInt .i64)) list1)),(2,(.eq (.map (some g1)))),(6,(.eq v8)),(7,(.tv (kInt .i64) low6)),(8,(.tv (kInt .i64) high6))]) ?_ ?_
  ·refine At.seq (At.region (At.d R R R R (jb (x:=(.tv (kSlice (kInt .i64)) list1)) (ja R)) ?_))
   refine At.d R R R R (jt (ja R) Tryz.underlying89) ?_
   refine At.d R R R R (jb (x:=(.tv (kInt .i64) (0:Int))) (ji _ _)) ?_
   refine At.done (At.vl (At.block ?_))
   refine At.nilrow 39 kSegment ?_
   obtain ⟨n5,hF⟩:=hF
   refine At.w [1,0] R [(0,(.tv (kSlice kSegment) all1)),(1,(.tv (kSlice (kInt .i64)) list1)),(2,(.eq (.map (some g1)))),(6,(.eq (.slice none 0 0))),(7,(.tv (kInt .i64) (0:Int))),(8,(.tv (kInt .i64) (0:Int))),(26,(.tv (kSlice (kInt .i64)) list1)),(27,(.tv (kInt .i64) (list1.length:Int))),(28,(.tv (kInt .i64) (0:Int)))] ⟨R,R,R,R,R,R,R,R,R,trivial⟩ ?_
   refine At.loop (fun m rs L=>∃ (x55:(List Segment)) (v58:Value) (low11:Int) (high11:Int) (t36:Int),W.iter4 (vu.l5 all1 list1 (vu.c1 (vu.Fn n) all1 list1 found1)) m x55 low11 high11 t36 Q∧rs=[.map g1 (kPair (kInt .i64) (kInt .i64)) (kInt .i64) found1,.row v58 39 kSegment x55]∧L=mkL [(0,(.tv (kSlice kSegment) all1)),(1,(.tv (kSlice (kInt .i64)) list1)),(2,(.eq (.map (some g1)))),(6,(.eq v58)),(7,(.tv (kInt .i64) low11)),(8,(.tv (kInt .i64) high11)),(26,(.tv (kSlice (kInt .i64)) list1)),(27,(.tv (kInt .i64) (list1.length:Int))),(28,(.tv (kInt .i64) t36))]) ?_ ?_ (m:=n5) ⟨([]:List Segment),(.slice none 0 0),(0:Int),(0:Int),(0:Int),hF,R,R⟩
   ·rintro rs L ⟨_,_,_,_,_,hF,_,_⟩;exact hF
   ·rintro m5 _ _ ⟨x55,v58,low11,high11,t36,hF,rfl,rfl⟩
    replace hF:=W.iter4_s hF
    unfold vu.l5 at hF
    refine At.seq (At.region (At.d R R R R (jk (ja R) (ja R) vg) ?_))
    refine At.done (At.vl (At.seq ?_))
    refine At.cond (ja R) (fun hb56=>?_) (fun hb56=>?_)
    ·replace hF:=W.ite_t hb56 hF
     refine At.skip (At.vl (At.seq (At.block (At.seq (At.region (At.d R R R R (jb (x:=(.tv (kInt .i64) t36)) (ja R)) ?_))))))
     obtain ⟨hq103,hF⟩:=hF
     refine At.d R R R R (vj (0:Int) (ja R) (ja R) Tryz.underlying89 ty_3 hq103) ?_
     refine At.d R R R R (vw (K:=(kInt .i64)) (ja R) ty_3) ?_
     refine At.d R R R R (jd (x:=(.tv (kInt .i64) t36)) (ja R)) ?_
     refine At.d R R R R (jd (x:=(.tv (kInt .i64) (rd (0:Int) list1 t36))) (ja R)) ?_
     refine At.done (At.vl (At.seq (At.region (At.d R R R R (jb (x:=(.tv (kSlice kSegment) all1)) (ja R)) ?_))))
     refine At.d R R R R (jb (x:=(.tv (kInt .i64) (rd (0:Int) list1 t36))) (ja R)) ?_
     obtain ⟨hq104,hF⟩:=hF
     refine At.d R R R R (vj zSegment (ja R) (ja R) Tryz.underlying27 ty_39 hq104) ?_
     refine At.d R R R R (vw (K:=kSegment) (ja R) ty_39) ?_
     refine At.f R (eff_alloc R R R tz_39) ?_
     rintro _ _ ⟨g13,rfl,rfl⟩
     refine At.f R (jz R R (ja R) 0 R (Sub.self kSegment) ty_39 (ja R)) ?_
     rintro _ _ ⟨rfl,rfl⟩
     refine At.done (At.vl (At.seq (At.region (At.d R R R R (jb (x:=(.eq v58)) (ja R)) ?_))))
     refine At.d R R R R (jc (ja R) 0 R (Sub.self kSegment) ty_39) ?_
     refine At.f R (vc R R R (os:=[.tmp 38]) R sl_27 (xs:=([(rd zSegment all1 (rd (0:Int) list1 t36))]:List Segment)) (jf (ja R) jg) R R) ?_
     rintro _ _ ⟨v59,rfl,rfl⟩
     obtain ⟨hq105,hF⟩:=hF
     refine At.f R (eff_append_row R R R 3 0 R R (ja R) (ja R) sl_27 hq105) ?_
     rintro _ _ ⟨v60,rfl,rfl⟩
     refine At.d R R R R (jd (x:=(.eq v60)) (ja R)) ?_
     refine At.done (At.vl ?_)
     refine At.cut (fun rs L=>∃ (low12:Int) (high12:Int),vu.c7 all1 list1 x55 t36 (W.iter4 (vu.l5 all1 list1 (vu.c1 (vu.Fn n) all1 list1 found1)) m5) low12 high12 Q∧rs=[.map g1 (kPair (kInt .i64) (kInt .i64)) (kInt .i64) found1,.row v60 39 kSegment (x55++([(rd zSegment all1 (rd (0:Int) list1 t36))]:List Segment)),.box g13 39 kSegment (rd zSegment all1 (rd (0:Int) list1 t36))]∧L=mkL [(0,(.tv (kSlice kSegment) all1)),(1,(.tv (kSlice (kInt .i64)) list1)),(2,(.eq (.map (some g1)))),(6,(.eq v60)),(7,(.tv (kInt .i64) low12)),(8,(.tv (kInt .i64) high12)),(11,(.eq (.pointer (some ⟨g13,0,none⟩)))),(26,(.tv (kSlice (kInt .i64)) list1)),(27,(.tv (kInt .i64) (list1.length:Int))),(28,(.tv (kInt .i64) t36))]) ?_ ?_
     ·refine At.seq (At.region (At.d R R R R (jb (x:=(.tv (kInt .i64) t36)) (ja R)) ?_))
      refine At.d R R R R (jk (ja R) (ji _ _) bin_eql) ?_
      refine At.done (At.vl ?_)
      refine At.cond (ja R) (fun hb58=>?_) (fun hb58=>?_)
      ·replace hF:=W.ite_t hb58 hF
       refine At.draw mixed [0,1,2,3] R [[],[],[],[]] (fun φ w hgd=>?_)
       refine AtH.take [0,1,2,3] hgd 0 R R R R (D':=#[Y,N,N,N,N,N,N,N,N,N,N,N,N,N,N,N]) (by kernel_rfl) (fun _ _ _ _ h=>h) R (je (ja R) qe) ?_
       refine AtH.take [0,1,2,3] hgd 1 R R R R (D':=#[Y,Y,N,N,N,N,N,N,N,N,N,N,N,N,N,N]) (by kernel_rfl) (fun _ _ _ _ h=>h) R (je (ja R) wa) ?_
       refine AtH.take [0,1,2,3] hgd 2 R R R R (D':=#[Y,Y,Y,N,N,N,N,N,N,N,N,N,N,N,N,N]) (by kernel_rfl) (fun _ _ _ _ h=>h) R (jc (ja R) 1 R ym ty_3) ?_
       refine AtH.take [0,1,2,3] hgd 3 R R R R (D':=#[Y,Y,Y,Y,N,N,N,N,N,N,N,N,N,N,N,N]) (by kernel_rfl) (fun _ _ _ _ h=>h) R (je (ja R) ql) ?_
       refine AtH.take [0,1,2,3] hgd 4 R R R R (D':=#[Y,Y,Y,Y,Y,N,N,N,N,N,N,N,N,N,N,N]) (by kernel_rfl) (fun _ _ _ _ h=>h) R (je (ja R) wa) ?_
       refine AtH.take [0,1,2,3] hgd 5 R R R R (D':=#[Y,Y,Y,Y,Y,Y,N,N,N,N,N,N,N,N,N,N]) (by kernel_rfl) (fun _ _ _ _ h=>h) R (jc (ja R) 1 R yl ty_3) ?_
       refine AtH.take [0,1,2,3] hgd 6 R R R R (D':=#[Y,Y,Y,Y,Y,Y,Y,N,N,N,N,N,N,N,N,N]) (by kernel_rfl) (fun _ _ _ _ h=>h) R (does_min (ja R) (ja R)) ?_
       refine AtH.take [0,1,2,3] hgd 7 R R R R (D':=#[Y,Y,Y,Y,Y,Y,Y,Y,N,N,N,N,N,N,N,N]) (by kernel_rfl) (fun _ _ _ _ h=>h) R (je (ja R) qe) ?_
       refine AtH.take [0,1,2,3] hgd 8 R R R R (D':=#[Y,Y,Y,Y,Y,Y,Y,Y,Y,N,N,N,N,N,N,N]) (by kernel_rfl) (fun _ _ _ _ h=>h) R (je (ja R) wa) ?_
       refine AtH.take [0,1,2,3] hgd 9 R R R R (D':=#[Y,Y,Y,Y,Y,Y,Y,Y,Y,Y,N,N,N,N,N,N]) (by kernel_rfl) (fun _ _ _ _ h=>h) R (jc (ja R) 1 R ym ty_3) ?_
       refine AtH.take [0,1,2,3] hgd 10 R R R R (D':=#[Y,Y,Y,Y,Y,Y,Y,Y,Y,Y,Y,N,N,N,N,N]) (by kernel_rfl) (fun _ _ _ _ h=>h) R (je (ja R) ql) ?_
       refine AtH.take [0,1,2,3] hgd 11 R R R R (D':=#[Y,Y,Y,Y,Y,Y,Y,Y,Y,Y,Y,Y,N,N,N,N]) (by kernel_rfl) (fun _ _ _ _ h=>h) R (je (ja R) wa) ?_
       refine AtH.take [0,1,2,3] hgd 12 R R R R (D':=#[Y,Y,Y,Y,Y,Y,Y,Y,Y,Y,Y,Y,Y,N,N,N]) (by kernel_rfl) (fun _ _ _ _ h=>h) R (jc (ja R) 1 R yl ty_3) ?_
       refine AtH.take [0,1,2,3] hgd 13 R R R R (D':=#[Y,Y,Y,Y,Y,Y,Y,Y,Y,Y,Y,Y,Y,Y,N,N]) (by kernel_rfl) (fun _ _ _ _ h=>h) R (does_max (ja R) (ja R)) ?_
       refine AtH.take [0,1,2,3] hgd 14 R R R R (D':=#[Y,Y,Y,Y,Y,Y,Y,Y,Y,Y,Y,Y,Y,Y,Y,N]) (by kernel_rfl) (fun _ _ _ _ h=>h) R (jd (x:=(.tv (kInt .i64) (if ((rd zSegment all1 (rd (0:Int) list1 t36)).B.X)<((rd zSegment all1 (rd (0:Int) list1 t36)).A.X) then ((rd zSegment all1 (rd (0:Int) list1 t36)).B.X) else ((rd zSegment all1 (rd (0:Int) list1 t36)).A.X)))) (ja R)) ?_
       refine AtH.take [0,1,2,3] hgd 15 R R R R (D':=#[Y,Y,Y,Y,Y,Y,Y,Y,Y,Y,Y,Y,Y,Y,Y,Y]) (by kernel_rfl) (fun _ _ _ _ h=>h) R (jd (x:=(.tv (kInt .i64) (if ((rd zSegment all1 (rd (0:Int) list1 t36)).A.X)<((rd zSegment all1 (rd (0:Int) list1 t36)).B.X) then ((rd zSegment all1 (rd (0:Int) list1 t36)).B.X) else ((rd zSegment all1 (rd (0:Int) list1 t36)).A.X)))) (ja R)) ?_
       refine AtH.done (by kernel_rfl) ?_
       refine At.vl ?_
       refine At.w [2,3,1] R [(0,(.tv (kSlice kSegment) all1)),(1,(.tv (kSlice (kInt .i64)) list1)),(2,(.eq (.map (some g1)))),(6,(.eq v60)),(7,(.tv (kInt .i64) (if ((rd zSegment all1 (rd (0:Int) list1 t36)).B.X)<((rd zSegment all1 (rd (0:Int) list1 t36)).A.X) then ((rd zSegment all1 (rd (0:Int) list1 t36)).B.X) else ((rd zSegment all1 (rd (0:Int) list1 t36)).A.X)))),(8,(.tv (kInt .i64) (if ((rd zSegment all1 (rd (0:Int) list1 t36)).A.X)<((rd zSegment all1 (rd (0:Int) list1 t36)).B.X) then ((rd zSegment all1 (rd (0:Int) list1 t36)).B.X) else ((rd zSegment all1 (rd (0:Int) list1 t36)).A.X)))),(11,(.eq (.pointer (some ⟨g13,0,none⟩)))),(26,(.tv (kSlice (kInt .i64)) list1)),(27,(.tv (kInt .i64) (list1.length:Int))),(28,(.tv (kInt .i64) t36))] ⟨R,R,R,R,R,R,R,R,R,R,trivial⟩ (At.r ⟨(if ((rd zSegment all1 (rd (0:Int) list1 t36)).B.X)<((rd zSegment all1 (rd (0:Int) list1 t36)).A.X) then ((rd zSegment all1 (rd (0:Int) list1 t36)).B.X) else ((rd zSegment all1 (rd (0:Int) list1 t36)).A.X)),(if ((rd zSegment all1 (rd (0:Int) list1 t36)).A.X)<((rd zSegment all1 (rd (0:Int) list1 t36)).B.X) then ((rd zSegment all1 (rd (0:Int) list1 t36)).B.X) else ((rd zSegment all1 (rd (0:Int) list1 t36)).A.X)),hF,R,R⟩)
      ·replace hF:=W.ite_f hb58 hF
       refine At.skip (At.vl ?_)
       refine At.w [2,3,1] R [(0,(.tv (kSlice kSegment) all1)),(1,(.tv (kSlice (kInt .i64)) list1)),(2,(.eq (.map (some g1)))),(6,(.eq v60)),(7,(.tv (kInt .i64) low11)),(8,(.tv (kInt .i64) high11)),(11,(.eq (.pointer (some ⟨g13,0,none⟩)))),(26,(.tv (kSlice (kInt .i64)) list1)),(27,(.tv (kInt .i64) (list1.length:Int))),(28,(.tv (kInt .i64) t36))] ⟨R,R,R,R,R,R,R,R,R,R,trivial⟩ (At.r ⟨low11,high11,hF,R,R⟩)
     ·rintro _ _ ⟨low12,high12,hF,rfl,rfl⟩
      unfold vu.c7 at hF
      refine At.draw mixed [0,1,2] R [[],[],[]] (fun φ w hgd=>?_)
      refine AtH.take [0,1,2] hgd 0 R R R R (D':=#[Y,N,N,N,N,N,N,N,N,N,N,N,N,N,N,N,N,N]) (by kernel_rfl) (fun _ _ _ _ h=>h) R (jb (x:=(.tv (kInt .i64) low12)) (ja R)) ?_
      refine AtH.take [0,1,2] hgd 1 R R R R (D':=#[Y,Y,N,N,N,N,N,N,N,N,N,N,N,N,N,N,N,N]) (by kernel_rfl) (fun _ _ _ _ h=>h) R (je (ja R) qe) ?_
      refine AtH.take [0,1,2] hgd 2 R R R R (D':=#[Y,Y,Y,N,N,N,N,N,N,N,N,N,N,N,N,N,N,N]) (by kernel_rfl) (fun _ _ _ _ h=>h) R (je (ja R) wa) ?_
      refine AtH.take [0,1,2] hgd 3 R R R R (D':=#[Y,Y,Y,Y,N,N,N,N,N,N,N,N,N,N,N,N,N,N]) (by kernel_rfl) (fun _ _ _ _ h=>h) R (jc (ja R) 2 R ym ty_3) ?_
      refine AtH.take [0,1,2] hgd 4 R R R R (D':=#[Y,Y,Y,Y,Y,N,N,N,N,N,N,N,N,N,N,N,N,N]) (by kernel_rfl) (fun _ _ _ _ h=>h) R (je (ja R) ql) ?_
      refine AtH.take [0,1,2] hgd 5 R R R R (D':=#[Y,Y,Y,Y,Y,Y,N,N,N,N,N,N,N,N,N,N,N,N]) (by kernel_rfl) (fun _ _ _ _ h=>h) R (je (ja R) wa) ?_
      refine AtH.take [0,1,2] hgd 6 R R R R (D':=#[Y,Y,Y,Y,Y,Y,Y,N,N,N,N,N,N,N,N,N,N,N]) (by kernel_rfl) (fun _ _ _ _ h=>h) R (jc (ja R) 2 R yl ty_3) ?_
      refine AtH.take [0,1,2] hgd 7 R R R R (D':=#[Y,Y,Y,Y,Y,Y,Y,Y,N,N,N,N,N,N,N,N,N,N]) (by kernel_rfl) (fun _ _ _ _ h=>h) R (does_mins (n:=low12) (ns:=[(rd zSegment all1 (rd (0:Int) list1 t36)).A.X,(rd zSegment all1 (rd (0:Int) list1 t36)).B.X]) (jf (ja R) (jf (ja R) (jf (ja R) jg)))) ?_
      refine AtH.take [0,1,2] hgd 8 R R R R (D':=#[Y,Y,Y,Y,Y,Y,Y,Y,Y,N,N,N,N,N,N,N,N,N]) (by kernel_rfl) (fun _ _ _ _ h=>h) R (jb (x:=(.tv (kInt .i64) high12)) (ja R)) ?_
      refine AtH.take [0,1,2] hgd 9 R R R R (D':=#[Y,Y,Y,Y,Y,Y,Y,Y,Y,Y,N,N,N,N,N,N,N,N]) (by kernel_rfl) (fun _ _ _ _ h=>h) R (je (ja R) qe) ?_
      refine AtH.take [0,1,2] hgd 10 R R R R (D':=#[Y,Y,Y,Y,Y,Y,Y,Y,Y,Y,Y,N,N,N,N,N,N,N]) (by kernel_rfl) (fun _ _ _ _ h=>h) R (je (ja R) wa) ?_
      refine AtH.take [0,1,2] hgd 11 R R R R (D':=#[Y,Y,Y,Y,Y,Y,Y,Y,Y,Y,Y,Y,N,N,N,N,N,N]) (by kernel_rfl) (fun _ _ _ _ h=>h) R (jc (ja R) 2 R ym ty_3) ?_
      refine AtH.take [0,1,2] hgd 12 R R R R (D':=#[Y,Y,Y,Y,Y,Y,Y,Y,Y,Y,Y,Y,Y,N,N,N,N,N]) (by kernel_rfl) (fun _ _ _ _ h=>h) R (je (ja R) ql) ?_
      refine AtH.take [0,1,2] hgd 13 R R R R (D':=#[Y,Y,Y,Y,Y,Y,Y,Y,Y,Y,Y,Y,Y,Y,N,N,N,N]) (by kernel_rfl) (fun _ _ _ _ h=>h) R (je (ja R) wa) ?_
      refine AtH.take [0,1,2] hgd 14 R R R R (D':=#[Y,Y,Y,Y,Y,Y,Y,Y,Y,Y,Y,Y,Y,Y,Y,N,N,N]) (by kernel_rfl) (fun _ _ _ _ h=>h) R (jc (ja R) 2 R yl ty_3) ?_
      refine AtH.take [0,1,2] hgd 15 R R R R (D':=#[Y,Y,Y,Y,Y,Y,Y,Y,Y,Y,Y,Y,Y,Y,Y,Y,N,N]) (by kernel_rfl) (fun _ _ _ _ h=>h) R (does_maxs (n:=high12) (ns:=[(rd zSegment all1 (rd (0:Int) list1 t36)).A.X,(rd zSegment all1 (rd (0:Int) list1 t36)).B.X]) (jf (ja R) (jf (ja R) (jf (ja R) jg)))) ?_
      refine AtH.take [0,1,2] hgd 16 R R R R (D':=#[Y,Y,Y,Y,Y,Y,Y,Y,Y,Y,Y,Y,Y,Y,Y,Y,Y,N]) (by kernel_rfl) (fun _ _ _ _ h=>h) R (jd (x:=(.tv (kInt .i64) (iMin [low12,(rd zSegment all1 (rd (0:Int) list1 t36)).A.X,(rd zSegment all1 (rd (0:Int) list1 t36)).B.X]))) (ja R)) ?_
      refine AtH.take [0,1,2] hgd 17 R R R R (D':=#[Y,Y,Y,Y,Y,Y,Y,Y,Y,Y,Y,Y,Y,Y,Y,Y,Y,Y]) (by kernel_rfl) (fun _ _ _ _ h=>h) R (jd (x:=(.tv (kInt .i64) (iMax [high12,(rd zSegment all1 (rd (0:Int) list1 t36)).A.X,(rd zSegment all1 (rd (0:Int) list1 t36)).B.X]))) (ja R)) ?_
      refine AtH.done (by kernel_rfl) ?_
      refine At.n ?_
      refine At.vl (At.region (At.d R R R R (jk (ja R) (ji _ _) vf) ?_))
      refine At.d R R R R (jb (x:=(.tv (kInt .i64) (w64 (t36+(1:Int))))) (ja R)) ?_
      refine At.done (At.vl ?_)
      refine At.w [0,1] R [(0,(.tv (kSlice kSegment) all1)),(1,(.tv (kSlice (kInt .i64)) list1)),(2,(.eq (.map (some g1)))),(6,(.eq v60)),(7,(.tv (kInt .i64) (iMin [low12,(rd zSegment all1 (rd (0:Int) list1 t36)).A.X,(rd zSegment all1 (rd (0:Int) list1 t36)).B.X]))),(8,(.tv (kInt .i64) (iMax [high12,(rd zSegment all1 (rd (0:Int) list1 t36)).A.X,(rd zSegment all1 (rd (0:Int) list1 t36)).B.X]))),(26,(.tv (kSlice (kInt .i64)) list1)),(27,(.tv (kInt .i64) (list1.length:Int))),(28,(.tv (kInt .i64) (w64 (t36+(1:Int)))))] ⟨R,R,R,R,R,R,R,R,R,trivial⟩ (At.r ⟨(x55++([(rd zSegment all1 (rd (0:Int) list1 t36))]:List Segment)),v60,(iMin [low12,(rd zSegment all1 (rd (0:Int) list1 t36)).A.X,(rd zSegment all1 (rd (0:Int) list1 t36)).B.X]),(iMax [high12,(rd zSegment all1 (rd (0:Int) list1 t36)).A.X,(rd zSegment all1 (rd (0:Int) list1 t36)).B.X]),(w64 (t36+(1:Int))),hF,R,R⟩)
    ·replace hF:=W.ite_f hb56 hF
     refine At.exit ?_
     refine At.x (At.x ?_)
     refine At.h ?_
     refine At.vl ?_
     refine At.w [0,1] R [(0,(.tv (kSlice kSegment) all1)),(1,(.tv (kSlice (kInt .i64)) list1)),(2,(.eq (.map (some g1)))),(6,(.eq v58)),(7,(.tv (kInt .i64) low11)),(8,(.tv (kInt .i64) high11))] ⟨R,R,R,R,R,R,trivial⟩ (At.r ⟨x55,v58,low11,high11,hF,R,R⟩)
  ·rintro _ _ ⟨x4,v8,low6,high6,hF,rfl,rfl⟩
   unfold vu.c1 at hF
   refine At.cut (fun rs L=>∃ _:Unit,vu.c2 (vu.Fn n) all1 list1 found1 low6 high6 Q∧rs=[.map g1 (kPair (kInt .i64) (kInt .i64)) (kInt .i64) found1]∧L=mkL [(0,(.tv (kSlice kSegment) all1)),(1,(.tv (kSlice (kInt .i64)) list1)),(2,(.eq (.map (some g1)))),(7,(.tv (kInt .i64) low6)),(8,(.tv (kInt .i64) high6))]) ?_ ?_
   ·refine At.seq (At.region (At.d R R R R (jb (x:=(.eq v8)) (ja R)) ?_))
    refine At.d R R R R (does_len_row (ja R) 1 R Tryz.underlying27) ?_
    refine At.d R R R R (jk (ja R) (ji _ _) bin_leq) ?_
    refine At.done (At.vl ?_)
    refine At.cond (ja R) (fun hb46=>?_) (fun hb46=>?_)
    ·replace hF:=W.ite_t hb46 hF
     refine At.seq (At.region (At.d R R R R (jb (x:=(.eq v8)) (ja R)) ?_))
     refine At.freezes 1 [6,74,78] R ⟨R,R,R,trivial⟩ ?_
     replace hF:=W.vq hF
     refine At.f R (jo R R (jq R en_70 (jf (ja R) jg)) [] R (Ve.ok hF)) ?_
     rintro _ _ ⟨_,_,⟨r13,v51,hF,rfl,rfl⟩,rfl,rfl⟩
     refine At.d R R R R (jb (x:=(.tup2 (.eq v51) (.tv (kInt .i64) r13.2))) (ja R)) ?_
     refine At.d R R R R (does_extract20 (ja R)) ?_
     refine At.d R R R R (does_extract21 (ja R)) ?_
     refine At.d R R R R (jd (x:=(.eq v51)) (ja R)) ?_
     refine At.d R R R R (jd (x:=(.tv (kInt .i64) r13.2)) (ja R)) ?_
     refine At.done (At.vl ?_)
     refine At.cut (fun rs L=>∃ (x49:(List ((Int×Int)×Int))),vu.c6 x49 Q∧rs=[.map g1 (kPair (kInt .i64) (kInt .i64)) (kInt .i64) x49]∧L=mkL []) ?_ ?_
     ·refine At.seq (At.region (At.d R R R R (jb (x:=(.eq v51)) (ja R)) ?_))
      refine At.d R R R R (does_len_row (ja R) 0 R Tryz.underlying121) ?_
      refine At.d R R R R (jb (x:=(.tv (kInt .i64) (0:Int))) (ji _ _)) ?_
      refine At.done (At.vl (At.block ?_))
      obtain ⟨n4,hF⟩:=hF
      refine At.w [1,0] R [(1,(.tv (kSlice (kInt .i64)) list1)),(2,(.eq (.map (some g1)))),(82,(.eq v51)),(83,(.tv (kInt .i64) (r13.1.length:Int))),(84,(.tv (kInt .i64) (0:Int)))] ⟨R,R,R,R,R,trivial⟩ ?_
      refine At.loop (fun m rs L=>∃ (x52:(List ((Int×Int)×Int))) (t33:Int),W.iter2 (vu.l4 list1 r13 (vu.c6)) m x52 t33 Q∧rs=[.map g1 (kPair (kInt .i64) (kInt .i64)) (kInt .i64) x52,.row v51 125 kMeet r13.1]∧L=mkL [(1,(.tv (kSlice (kInt .i64)) list1)),(2,(.eq (.map (some g1)))),(82,(.eq v51)),(83,(.tv (kInt .i64) (r13.1.length:Int))),(84,(.tv (kInt .i64) t33))]) ?_ ?_ (m:=n4) ⟨found1,(0:Int),hF,R,R⟩
      ·rintro rs L ⟨_,_,hF,_,_⟩;exact hF
      ·rintro m4 _ _ ⟨x52,t33,hF,rfl,rfl⟩
       replace hF:=W.iter2_s hF
       unfold vu.l4 at hF
       refine At.seq (At.region (At.d R R R R (jk (ja R) (ja R) vg) ?_))
       refine At.done (At.vl (At.seq ?_))
       refine At.cond (ja R) (fun hb51=>?_) (fun hb51=>?_)
       ·replace hF:=W.ite_t hb51 hF
        refine At.skip (At.vl (At.seq (At.block (At.seq (At.region ?_)))))
        obtain ⟨hq93,hF⟩:=hF
        refine At.d R R R R (does_idx_row (ja R) 1 R (ja R) Tryz.underlying121 ty_125 hq93) ?_
        obtain ⟨hq94,hF⟩:=hF
        refine At.d R R R R (Jh (ja R) 1 R t33 0 R zMeet hq94 (Sub.self kMeet) ty_125) ?_
        refine At.f R (eff_alloc R R R tz_125) ?_
        rintro _ _ ⟨g10,rfl,rfl⟩
        refine At.f R (jz R R (ja R) 0 R (Sub.self kMeet) ty_125 (ja R)) ?_
        rintro _ _ ⟨rfl,rfl⟩
        refine At.done (At.vl ?_)
        refine At.draw mixed [0,1,2] R [[],[14],[]] (fun φ w hgd=>?_)
        obtain ⟨hq95,hF⟩:=hF
        obtain ⟨hq96,hF⟩:=hF
        refine AtH.take [0,1,2] hgd 0 R R R R (D':=#[Y,N,N,N,N,N,N,N,N,N,N,N,N,N,N]) (by kernel_rfl) (fun _ _ _ _ h=>h) R (jb (x:=(.eq (.map (some g1)))) (ja R)) ?_
        refine AtH.take [0,1,2] hgd 1 R R R R (D':=#[Y,Y,N,N,N,N,N,N,N,N,N,N,N,N,N]) (by kernel_rfl) (fun _ _ _ _ h=>h) R (jb (x:=(.tv (kSlice (kInt .i64)) list1)) (ja R)) ?_
        refine AtH.take [0,1,2] hgd 2 R R R R (D':=#[Y,Y,Y,N,N,N,N,N,N,N,N,N,N,N,N]) (by kernel_rfl) (fun _ _ _ _ h=>h) R (je (ja R) fa_125_0) ?_
        refine AtH.take [0,1,2] hgd 3 R R R R (D':=#[Y,Y,Y,Y,N,N,N,N,N,N,N,N,N,N,N]) (by kernel_rfl) (fun _ _ _ _ h=>h) R (jc (ja R) 0 R sub_Meet_0 ty_3) ?_
        refine AtH.take [0,1,2] hgd 4 R R R R (D':=#[Y,Y,Y,Y,Y,N,N,N,N,N,N,N,N,N,N]) (by kernel_rfl) (fun _ _ _ _ h=>h) R (vj (0:Int) (ja R) (ja R) Tryz.underlying89 ty_3 hq95) ?_
        refine AtH.take [0,1,2] hgd 5 R R R R (D':=#[Y,Y,Y,Y,Y,Y,N,N,N,N,N,N,N,N,N]) (by kernel_rfl) (fun _ _ _ _ h=>h) R (vw (K:=(kInt .i64)) (ja R) ty_3) ?_
        refine AtH.take [0,1,2] hgd 6 R R R R (D':=#[Y,Y,Y,Y,Y,Y,Y,N,N,N,N,N,N,N,N]) (by kernel_rfl) (fun _ _ _ _ h=>h) R (jb (x:=(.tv (kSlice (kInt .i64)) list1)) (ja R)) ?_
        refine AtH.take [0,1,2] hgd 7 R R R R (D':=#[Y,Y,Y,Y,Y,Y,Y,Y,N,N,N,N,N,N,N]) (by kernel_rfl) (fun _ _ _ _ h=>h) R (je (ja R) fa_125_1) ?_
        refine AtH.take [0,1,2] hgd 8 R R R R (D':=#[Y,Y,Y,Y,Y,Y,Y,Y,Y,N,N,N,N,N,N]) (by kernel_rfl) (fun _ _ _ _ h=>h) R (jc (ja R) 0 R sub_Meet_1 ty_3) ?_
        refine AtH.take [0,1,2] hgd 9 R R R R (D':=#[Y,Y,Y,Y,Y,Y,Y,Y,Y,Y,N,N,N,N,N]) (by kernel_rfl) (fun _ _ _ _ h=>h) R (vj (0:Int) (ja R) (ja R) Tryz.underlying89 ty_3 hq96) ?_
        refine AtH.take [0,1,2] hgd 10 R R R R (D':=#[Y,Y,Y,Y,Y,Y,Y,Y,Y,Y,Y,N,N,N,N]) (by kernel_rfl) (fun _ _ _ _ h=>h) R (vw (K:=(kInt .i64)) (ja R) ty_3) ?_
        refine AtH.take [0,1,2] hgd 11 R R R R (D':=#[Y,Y,Y,Y,Y,Y,Y,Y,Y,Y,Y,Y,N,N,N]) (by kernel_rfl) (fun _ _ _ _ h=>h) R (vd (jr (ja R) (jr (ja R) js)) zr_92 bd_92 R (fills_cons R sub_a92_0 (fills_cons R sub_a92_1 fills_nil))) ?_
        refine AtH.take [0,1,2] hgd 12 R R R R (D':=#[Y,Y,Y,Y,Y,Y,Y,Y,Y,Y,Y,Y,Y,N,N]) (by kernel_rfl) (fun _ _ _ _ h=>h) R (je (ja R) fa_125_2) ?_
        refine AtH.take [0,1,2] hgd 13 R R R R (D':=#[Y,Y,Y,Y,Y,Y,Y,Y,Y,Y,Y,Y,Y,Y,N]) (by kernel_rfl) (fun _ _ _ _ h=>h) R (jc (ja R) 0 R sub_Meet_2 ty_3) ?_
        refine AtH.all1 14 (by kernel_rfl) ?_
        refine AtH.eff0 [(0,0),(2,2)] R R R R R (eff_mapUpdate R R (ja R) 1 R mt_90 (ja R) (ja R)) (D':=#[Y,Y,Y,Y,Y,Y,Y,Y,Y,Y,Y,Y,Y,Y,Y]) (by kernel_rfl) (by kernel_rfl) ?_
        rintro _ _ ⟨rfl,rfl⟩
        refine AtH.done (by kernel_rfl) ?_
        refine At.n ?_
        refine At.vl (At.region (At.d R R R R (jk (ja R) (ji _ _) vf) ?_))
        refine At.d R R R R (jb (x:=(.tv (kInt .i64) (w64 (t33+(1:Int))))) (ja R)) ?_
        refine At.done (At.vl ?_)
        refine At.w [1,2] R [(1,(.tv (kSlice (kInt .i64)) list1)),(2,(.eq (.map (some g1)))),(82,(.eq v51)),(83,(.tv (kInt .i64) (r13.1.length:Int))),(84,(.tv (kInt .i64) (w64 (t33+(1:Int)))))] ⟨R,R,R,R,R,trivial⟩ (At.r ⟨(mset ((rd (0:Int) list1 ((rd zMeet r13.1 t33).A)),(rd (0:Int) list1 ((rd zMeet r13.1 t33).B))) ((rd zMeet r13.1 t33).Kind) x52),(w64 (t33+(1:Int))),hF,R,R⟩)
       ·replace hF:=W.ite_f hb51 hF
        refine At.exit ?_
        refine At.x (At.x ?_)
        refine At.h ?_
        refine At.vl ?_
        refine At.w [0] R [] trivial (At.r ⟨x52,hF,R,R⟩)
     ·rintro _ _ ⟨x49,hF,rfl,rfl⟩
      unfold vu.c6 at hF
      refine At.ret (At.vm ?_)
      exact At.ret_0 rfl  [0] rfl ⟨x49,hF,rfl,rfl⟩
    ·replace hF:=W.ite_f hb46 hF
     refine At.skip (At.vl ?_)
     refine At.w [0] R [(0,(.tv (kSlice kSegment) all1)),(1,(.tv (kSlice (kInt .i64)) list1)),(2,(.eq (.map (some g1)))),(7,(.tv (kInt .i64) low6)),(8,(.tv (kInt .i64) high6))] ⟨R,R,R,R,R,trivial⟩ (At.r ⟨(),hF,R,R⟩)
   ·rintro _ _ ⟨_,hF,rfl,rfl⟩
    unfold vu.c2 at hF
    refine At.seq (At.region (At.d R R R R (jd (x:=(.eq (.slice none 0 0))) (opd_eq _)) ?_))
    refine At.d R R R R (jd (x:=(.eq (.slice none 0 0))) (opd_eq _)) ?_
    refine At.done (At.vl (At.seq (At.region (At.d R R R R (jb (x:=(.tv (kInt .i64) low6)) (ja R)) ?_))))
    refine At.d R R R R (jb (x:=(.tv (kInt .i64) high6)) (ja R)) ?_
    refine At.d R R R R (jb (x:=(.tv (kInt .i64) low6)) (ja R)) ?_
    refine At.d R R R R (jk (ja R) (ja R) bin_sub) ?_
    refine At.d R R R R (jk (ja R) (ji _ _) (bin_quo (by decide))) ?_
    refine At.d R R R R (jk (ja R) (ja R) vf) ?_
    refine At.d R R R R (jd (x:=(.tv (kInt .i64) (w64 (low6+(w64 (Int.tdiv (w64 (high6-low6)) (2:Int))))))) (ja R)) ?_
    refine At.done (At.vl ?_)
    refine At.cut (fun rs L=>∃ (x17:(List Int)) (v26:Value) (x18:(List Int)) (v27:Value),vu.c3 (vu.Fn n) all1 list1 found1 x17 x18 Q∧rs=[.map g1 (kPair (kInt .i64) (kInt .i64)) (kInt .i64) found1,.row v26 3 (kInt .i64) x17,.row v27 3 (kInt .i64) x18]∧L=mkL [(0,(.tv (kSlice kSegment) all1)),(1,(.tv (kSlice (kInt .i64)) list1)),(2,(.eq (.map (some g1)))),(16,(.eq v26)),(17,(.eq v27))]) ?_ ?_
    ·refine At.seq (At.region (At.d R R R R (jb (x:=(.tv (kSlice (kInt .i64)) list1)) (ja R)) ?_))
     refine At.d R R R R (jt (ja R) Tryz.underlying89) ?_
     refine At.d R R R R (jb (x:=(.tv (kInt .i64) (0:Int))) (ji _ _)) ?_
     refine At.done (At.vl (At.block ?_))
     refine At.nilrow 3 (kInt .i64) ?_
     refine At.nilrow 3 (kInt .i64) ?_
     obtain ⟨n3,hF⟩:=hF
     refine At.w [2,1,0] R [(0,(.tv (kSlice kSegment) all1)),(1,(.tv (kSlice (kInt .i64)) list1)),(2,(.eq (.map (some g1)))),(16,(.eq (.slice none 0 0))),(17,(.eq (.slice none 0 0))),(18,(.tv (kInt .i64) (w64 (low6+(w64 (Int.tdiv (w64 (high6-low6)) (2:Int))))))),(109,(.tv (kSlice (kInt .i64)) list1)),(110,(.tv (kInt .i64) (list1.length:Int))),(111,(.tv (kInt .i64) (0:Int)))] ⟨R,R,R,R,R,R,R,R,R,trivial⟩ ?_
     refine At.loop (fun m rs L=>∃ (x43:(List Int)) (v42:Value) (x44:(List Int)) (v43:Value) (t27:Int),W.iter3 (vu.l3 all1 list1 low6 high6 (vu.c3 (vu.Fn n) all1 list1 found1)) m x43 x44 t27 Q∧rs=[.map g1 (kPair (kInt .i64) (kInt .i64)) (kInt .i64) found1,.row v42 3 (kInt .i64) x43,.row v43 3 (kInt .i64) x44]∧L=mkL [(0,(.tv (kSlice kSegment) all1)),(1,(.tv (kSlice (kInt .i64)) list1)),(2,(.eq (.map (some g1)))),(16,(.eq v42)),(17,(.eq v43)),(18,(.tv (kInt .i64) (w64 (low6+(w64 (Int.tdiv (w64 (high6-low6)) (2:Int))))))),(109,(.tv (kSlice (kInt .i64)) list1)),(110,(.tv (kInt .i64) (list1.length:Int))),(111,(.tv (kInt .i64) t27))]) ?_ ?_ (m:=n3) ⟨([]:List Int),(.slice none 0 0),([]:List Int),(.slice none 0 0),(0:Int),hF,R,R⟩
     ·rintro rs L ⟨_,_,_,_,_,hF,_,_⟩;exact hF
     ·rintro m3 _ _ ⟨x43,v42,x44,v43,t27,hF,rfl,rfl⟩
      replace hF:=W.iter3_s hF
      unfold vu.l3 at hF
      refine At.seq (At.region (At.d R R R R (jk (ja R) (ja R) vg) ?_))
      refine At.done (At.vl (At.seq ?_))
      refine At.cond (ja R) (fun hb42=>?_) (fun hb42=>?_)
      ·replace hF:=W.ite_t hb42 hF
       refine At.skip (At.vl (At.seq (At.block (At.seq (At.region ?_)))))
       obtain ⟨hq70,hF⟩:=hF
       refine At.d R R R R (vj (0:Int) (ja R) (ja R) Tryz.underlying89 ty_3 hq70) ?_
       refine At.d R R R R (vw (K:=(kInt .i64)) (ja R) ty_3) ?_
       refine At.d R R R R (jd (x:=(.tv (kInt .i64) (rd (0:Int) list1 t27))) (ja R)) ?_
       refine At.done (At.vl ?_)
       refine At.cut (fun rs L=>∃ (x45:(List Int)) (v46:Value),vu.c5 all1 list1 low6 high6 x44 t27 (W.iter3 (vu.l3 all1 list1 low6 high6 (vu.c3 (vu.Fn n) all1 list1 found1)) m3) x45 Q∧rs=[.map g1 (kPair (kInt .i64) (kInt .i64)) (kInt .i64) found1,.row v46 3 (kInt .i64) x45,.row v43 3 (kInt .i64) x44]∧L=mkL [(0,(.tv (kSlice kSegment) all1)),(1,(.tv (kSlice (kInt .i64)) list1)),(2,(.eq (.map (some g1)))),(16,(.eq v46)),(17,(.eq v43)),(18,(.tv (kInt .i64) (w64 (low6+(w64 (Int.tdiv (w64 (high6-low6)) (2:Int))))))),(20,(.tv (kInt .i64) (rd (0:Int) list1 t27))),(109,(.tv (kSlice (kInt .i64)) list1)),(110,(.tv (kInt .i64) (list1.length:Int))),(111,(.tv (kInt .i64) t27))]) ?_ ?_
       ·refine At.seq ?_
        refine At.draw mixed [0,1,2] R [[],[],[]] (fun φ w hgd=>?_)
        obtain ⟨hq75,hF⟩:=hF
        refine AtH.take [0,1,2] hgd 0 R R R R (D':=#[Y,N,N,N,N,N,N,N,N,N,N,N,N,N,N]) (by kernel_rfl) (fun _ _ _ _ h=>h) R (jb (x:=(.tv (kSlice kSegment) all1)) (ja R)) ?_
        refine AtH.take [0,1,2] hgd 1 R R R R (D':=#[Y,Y,N,N,N,N,N,N,N,N,N,N,N,N,N]) (by kernel_rfl) (fun _ _ _ _ h=>h) R (jb (x:=(.tv (kInt .i64) (rd (0:Int) list1 t27))) (ja R)) ?_
        refine AtH.take [0,1,2] hgd 2 R R R R (D':=#[Y,Y,Y,N,N,N,N,N,N,N,N,N,N,N,N]) (by kernel_rfl) (fun _ _ _ _ h=>h) R (vj zSegment (ja R) (ja R) Tryz.underlying27 ty_39 hq75) ?_
        refine AtH.take [0,1,2] hgd 3 R R R R (D':=#[Y,Y,Y,Y,N,N,N,N,N,N,N,N,N,N,N]) (by kernel_rfl) (fun _ _ _ _ h=>h) R (Ji (K:=kSegment) (ja R) qe Jf) ?_
        refine AtH.take [0,1,2] hgd 4 R R R R (D':=#[Y,Y,Y,Y,Y,N,N,N,N,N,N,N,N,N,N]) (by kernel_rfl) (fun _ _ _ _ h=>h) R (Ji (K:=kPoint) (ja R) wa Vx) ?_
        refine AtH.take [0,1,2] hgd 5 R R R R (D':=#[Y,Y,Y,Y,Y,Y,N,N,N,N,N,N,N,N,N]) (by kernel_rfl) (fun _ _ _ _ h=>h) R (vw (K:=(kInt .i64)) (ja R) ty_3) ?_
        refine AtH.take [0,1,2] hgd 6 R R R R (D':=#[Y,Y,Y,Y,Y,Y,Y,N,N,N,N,N,N,N,N]) (by kernel_rfl) (fun _ _ _ _ h=>h) R (jb (x:=(.tv (kSlice kSegment) all1)) (ja R)) ?_
        refine AtH.take [0,1,2] hgd 7 R R R R (D':=#[Y,Y,Y,Y,Y,Y,Y,Y,N,N,N,N,N,N,N]) (by kernel_rfl) (fun _ _ _ _ h=>h) R (jb (x:=(.tv (kInt .i64) (rd (0:Int) list1 t27))) (ja R)) ?_
        refine AtH.take [0,1,2] hgd 8 R R R R (D':=#[Y,Y,Y,Y,Y,Y,Y,Y,Y,N,N,N,N,N,N]) (by kernel_rfl) (fun _ _ _ _ h=>h) R (vj zSegment (ja R) (ja R) Tryz.underlying27 ty_39 hq75) ?_
        refine AtH.take [0,1,2] hgd 9 R R R R (D':=#[Y,Y,Y,Y,Y,Y,Y,Y,Y,Y,N,N,N,N,N]) (by kernel_rfl) (fun _ _ _ _ h=>h) R (Ji (K:=kSegment) (ja R) ql Jg) ?_
        refine AtH.take [0,1,2] hgd 10 R R R R (D':=#[Y,Y,Y,Y,Y,Y,Y,Y,Y,Y,Y,N,N,N,N]) (by kernel_rfl) (fun _ _ _ _ h=>h) R (Ji (K:=kPoint) (ja R) wa Vx) ?_
        refine AtH.take [0,1,2] hgd 11 R R R R (D':=#[Y,Y,Y,Y,Y,Y,Y,Y,Y,Y,Y,Y,N,N,N]) (by kernel_rfl) (fun _ _ _ _ h=>h) R (vw (K:=(kInt .i64)) (ja R) ty_3) ?_
        refine AtH.take [0,1,2] hgd 12 R R R R (D':=#[Y,Y,Y,Y,Y,Y,Y,Y,Y,Y,Y,Y,Y,N,N]) (by kernel_rfl) (fun _ _ _ _ h=>h) R (does_min (ja R) (ja R)) ?_
        refine AtH.take [0,1,2] hgd 13 R R R R (D':=#[Y,Y,Y,Y,Y,Y,Y,Y,Y,Y,Y,Y,Y,Y,N]) (by kernel_rfl) (fun _ _ _ _ h=>h) R (jb (x:=(.tv (kInt .i64) (w64 (low6+(w64 (Int.tdiv (w64 (high6-low6)) (2:Int))))))) (ja R)) ?_
        refine AtH.take [0,1,2] hgd 14 R R R R (D':=#[Y,Y,Y,Y,Y,Y,Y,Y,Y,Y,Y,Y,Y,Y,Y]) (by kernel_rfl) (fun _ _ _ _ h=>h) R (jk (ja R) (ja R) bin_leq) ?_
        refine AtH.done (by kernel_rfl) ?_
        refine At.vl ?_
        refine At.cond (ja R) (fun hb45=>?_) (fun hb45=>?_)
        ·replace hF:=W.ite_t hb45 hF
         refine At.region (At.d R R R R (jb (x:=(.eq v42)) (ja R)) ?_)
         refine At.d R R R R (jb (x:=(.tv (kInt .i64) (rd (0:Int) list1 t27))) (ja R)) ?_
         refine At.f R (vc R R R (os:=[.tmp 131]) R sl_89 (xs:=([(rd (0:Int) list1 t27)]:List Int)) (jf (ja R) jg) R R) ?_
         rintro _ _ ⟨v49,rfl,rfl⟩
         obtain ⟨hq76,hF⟩:=hF
         refine At.f R (eff_append_row R R R 2 0 R R (ja R) (ja R) sl_89 hq76) ?_
         rintro _ _ ⟨v50,rfl,rfl⟩
         refine At.d R R R R (jd (x:=(.eq v50)) (ja R)) ?_
         refine At.done (At.vl ?_)
         refine At.w [1,2,3] R [(0,(.tv (kSlice kSegment) all1)),(1,(.tv (kSlice (kInt .i64)) list1)),(2,(.eq (.map (some g1)))),(16,(.eq v50)),(17,(.eq v43)),(18,(.tv (kInt .i64) (w64 (low6+(w64 (Int.tdiv (w64 (high6-low6)) (2:Int))))))),(20,(.tv (kInt .i64) (rd (0:Int) list1 t27))),(109,(.tv (kSlice (kInt .i64)) list1)),(110,(.tv (kInt .i64) (list1.length:Int))),(111,(.tv (kInt .i64) t27))] ⟨R,R,R,R,R,R,R,R,R,R,trivial⟩ (At.r ⟨(x43++([(rd (0:Int) list1 t27)]:List Int)),v50,hF,R,R⟩)
        ·replace hF:=W.ite_f hb45 hF
         refine At.skip (At.vl ?_)
         refine At.w [0,1,2] R [(0,(.tv (kSlice kSegment) all1)),(1,(.tv (kSlice (kInt .i64)) list1)),(2,(.eq (.map (some g1)))),(16,(.eq v42)),(17,(.eq v43)),(18,(.tv (kInt .i64) (w64 (low6+(w64 (Int.tdiv (w64 (high6-low6)) (2:Int))))))),(20,(.tv (kInt .i64) (rd (0:Int) list1 t27))),(109,(.tv (kSlice (kInt .i64)) list1)),(110,(.tv (kInt .i64) (list1.length:Int))),(111,(.tv (kInt .i64) t27))] ⟨R,R,R,R,R,R,R,R,R,R,trivial⟩ (At.r ⟨x43,v42,hF,R,R⟩)
       ·rintro _ _ ⟨x45,v46,hF,rfl,rfl⟩
        unfold vu.c5 at hF
        refine At.seq ?_
        refine At.draw mixed [0,1,2] R [[],[],[]] (fun φ w hgd=>?_)
        obtain ⟨hq73,hF⟩:=hF
        refine AtH.take [0,1,2] hgd 0 R R R R (D':=#[Y,N,N,N,N,N,N,N,N,N,N,N,N,N,N]) (by kernel_rfl) (fun _ _ _ _ h=>h) R (jb (x:=(.tv (kSlice kSegment) all1)) (ja R)) ?_
        refine AtH.take [0,1,2] hgd 1 R R R R (D':=#[Y,Y,N,N,N,N,N,N,N,N,N,N,N,N,N]) (by kernel_rfl) (fun _ _ _ _ h=>h) R (jb (x:=(.tv (kInt .i64) (rd (0:Int) list1 t27))) (ja R)) ?_
        refine AtH.take [0,1,2] hgd 2 R R R R (D':=#[Y,Y,Y,N,N,N,N,N,N,N,N,N,N,N,N]) (by kernel_rfl) (fun _ _ _ _ h=>h) R (vj zSegment (ja R) (ja R) Tryz.underlying27 ty_39 hq73) ?_
        refine AtH.take [0,1,2] hgd 3 R R R R (D':=#[Y,Y,Y,Y,N,N,N,N,N,N,N,N,N,N,N]) (by kernel_rfl) (fun _ _ _ _ h=>h) R (Ji (K:=kSegment) (ja R) qe Jf) ?_
        refine AtH.take [0,1,2] hgd 4 R R R R (D':=#[Y,Y,Y,Y,Y,N,N,N,N,N,N,N,N,N,N]) (by kernel_rfl) (fun _ _ _ _ h=>h) R (Ji (K:=kPoint) (ja R) wa Vx) ?_
        refine AtH.take [0,1,2] hgd 5 R R R R (D':=#[Y,Y,Y,Y,Y,Y,N,N,N,N,N,N,N,N,N]) (by kernel_rfl) (fun _ _ _ _ h=>h) R (vw (K:=(kInt .i64)) (ja R) ty_3) ?_
        refine AtH.take [0,1,2] hgd 6 R R R R (D':=#[Y,Y,Y,Y,Y,Y,Y,N,N,N,N,N,N,N,N]) (by kernel_rfl) (fun _ _ _ _ h=>h) R (jb (x:=(.tv (kSlice kSegment) all1)) (ja R)) ?_
        refine AtH.take [0,1,2] hgd 7 R R R R (D':=#[Y,Y,Y,Y,Y,Y,Y,Y,N,N,N,N,N,N,N]) (by kernel_rfl) (fun _ _ _ _ h=>h) R (jb (x:=(.tv (kInt .i64) (rd (0:Int) list1 t27))) (ja R)) ?_
        refine AtH.take [0,1,2] hgd 8 R R R R (D':=#[Y,Y,Y,Y,Y,Y,Y,Y,Y,N,N,N,N,N,N]) (by kernel_rfl) (fun _ _ _ _ h=>h) R (vj zSegment (ja R) (ja R) Tryz.underlying27 ty_39 hq73) ?_
        refine AtH.take [0,1,2] hgd 9 R R R R (D':=#[Y,Y,Y,Y,Y,Y,Y,Y,Y,Y,N,N,N,N,N]) (by kernel_rfl) (fun _ _ _ _ h=>h) R (Ji (K:=kSegment) (ja R) ql Jg) ?_
        refine AtH.take [0,1,2] hgd 10 R R R R (D':=#[Y,Y,Y,Y,Y,Y,Y,Y,Y,Y,Y,N,N,N,N]) (by kernel_rfl) (fun _ _ _ _ h=>h) R (Ji (K:=kPoint) (ja R) wa Vx) ?_
        refine AtH.take [0,1,2] hgd 11 R R R R (D':=#[Y,Y,Y,Y,Y,Y,Y,Y,Y,Y,Y,Y,N,N,N]) (by kernel_rfl) (fun _ _ _ _ h=>h) R (vw (K:=(kInt .i64)) (ja R) ty_3) ?_
        refine AtH.take [0,1,2] hgd 12 R R R R (D':=#[Y,Y,Y,Y,Y,Y,Y,Y,Y,Y,Y,Y,Y,N,N]) (by kernel_rfl) (fun _ _ _ _ h=>h) R (does_max (ja R) (ja R)) ?_
        refine AtH.take [0,1,2] hgd 13 R R R R (D':=#[Y,Y,Y,Y,Y,Y,Y,Y,Y,Y,Y,Y,Y,Y,N]) (by kernel_rfl) (fun _ _ _ _ h=>h) R (jb (x:=(.tv (kInt .i64) (w64 (low6+(w64 (Int.tdiv (w64 (high6-low6)) (2:Int))))))) (ja R)) ?_
        refine AtH.take [0,1,2] hgd 14 R R R R (D':=#[Y,Y,Y,Y,Y,Y,Y,Y,Y,Y,Y,Y,Y,Y,Y]) (by kernel_rfl) (fun _ _ _ _ h=>h) R (jk (ja R) (ja R) bin_gtr) ?_
        refine AtH.done (by kernel_rfl) ?_
        refine At.vl ?_
        refine At.cond (ja R) (fun hb44=>?_) (fun hb44=>?_)
        ·replace hF:=W.ite_t hb44 hF
         refine At.region (At.d R R R R (jb (x:=(.eq v43)) (ja R)) ?_)
         refine At.d R R R R (jb (x:=(.tv (kInt .i64) (rd (0:Int) list1 t27))) (ja R)) ?_
         refine At.f R (vc R R R (os:=[.tmp 150]) R sl_89 (xs:=([(rd (0:Int) list1 t27)]:List Int)) (jf (ja R) jg) R R) ?_
         rintro _ _ ⟨v47,rfl,rfl⟩
         obtain ⟨hq74,hF⟩:=hF
         refine At.f R (eff_append_row R R R 3 0 R R (ja R) (ja R) sl_89 hq74) ?_
         rintro _ _ ⟨v48,rfl,rfl⟩
         refine At.d R R R R (jd (x:=(.eq v48)) (ja R)) ?_
         refine At.done ?_
         refine At.n ?_
         refine At.vl (At.region (At.d R R R R (jk (ja R) (ji _ _) vf) ?_))
         refine At.d R R R R (jb (x:=(.tv (kInt .i64) (w64 (t27+(1:Int))))) (ja R)) ?_
         refine At.done (At.vl ?_)
         refine At.w [1,2,3] R [(0,(.tv (kSlice kSegment) all1)),(1,(.tv (kSlice (kInt .i64)) list1)),(2,(.eq (.map (some g1)))),(16,(.eq v46)),(17,(.eq v48)),(18,(.tv (kInt .i64) (w64 (low6+(w64 (Int.tdiv (w64 (high6-low6)) (2:Int))))))),(109,(.tv (kSlice (kInt .i64)) list1)),(110,(.tv (kInt .i64) (list1.length:Int))),(111,(.tv (kInt .i64) (w64 (t27+(1:Int)))))] ⟨R,R,R,R,R,R,R,R,R,trivial⟩ (At.r ⟨x45,v46,(x44++([(rd (0:Int) list1 t27)]:List Int)),v48,(w64 (t27+(1:Int))),hF,R,R⟩)
        ·replace hF:=W.ite_f hb44 hF
         refine At.skip ?_
         refine At.n ?_
         refine At.vl (At.region (At.d R R R R (jk (ja R) (ji _ _) vf) ?_))
         refine At.d R R R R (jb (x:=(.tv (kInt .i64) (w64 (t27+(1:Int))))) (ja R)) ?_
         refine At.done (At.vl ?_)
         refine At.w [0,1,2] R [(0,(.tv (kSlice kSegment) all1)),(1,(.tv (kSlice (kInt .i64)) list1)),(2,(.eq (.map (some g1)))),(16,(.eq v46)),(17,(.eq v43)),(18,(.tv (kInt .i64) (w64 (low6+(w64 (Int.tdiv (w64 (high6-low6)) (2:Int))))))),(109,(.tv (kSlice (kInt .i64)) list1)),(110,(.tv (kInt .i64) (list1.length:Int))),(111,(.tv (kInt .i64) (w64 (t27+(1:Int)))))] ⟨R,R,R,R,R,R,R,R,R,trivial⟩ (At.r ⟨x45,v46,x44,v43,(w64 (t27+(1:Int))),hF,R,R⟩)
      ·replace hF:=W.ite_f hb42 hF
       refine At.exit ?_
       refine At.x (At.x ?_)
       refine At.h ?_
       refine At.vl ?_
       refine At.w [0,1,2] R [(0,(.tv (kSlice kSegment) all1)),(1,(.tv (kSlice (kInt .i64)) list1)),(2,(.eq (.map (some g1)))),(16,(.eq v42)),(17,(.eq v43))] ⟨R,R,R,R,R,trivial⟩ (At.r ⟨x43,v42,x44,v43,hF,R,R⟩)
    ·rintro _ _ ⟨x17,v26,x18,v27,hF,rfl,rfl⟩
     unfold vu.c3 at hF
     refine At.seq (At.seq (At.region (At.d R R R R (jb (x:=(.eq v26)) (ja R)) ?_)))
     refine At.d R R R R (does_len_row (ja R) 1 R Tryz.underlying89) ?_
     refine At.d R R R R (jb (x:=(.tv (kSlice (kInt .i64)) list1)) (ja R)) ?_
     refine At.d R R R R (jt (ja R) Tryz.underlying89) ?_
     refine At.d R R R R (jk (ja R) (ja R) vg) ?_
     refine At.d R R R R (jb (x:=(.tv kBool (decide ((x17.length:Int)<(list1.length:Int))))) (ja R)) ?_
     refine At.vn R R R R (jw R) R (fun hg1=>(jb (x:=(.eq v27)) (ja R))) ?_
     refine At.vn R R R R (jw R) R (fun hg2=>(does_len_row (jh R hg2) 2 R Tryz.underlying89)) ?_
     refine At.vn R R R R (jw R) R (fun hg3=>(jb (x:=(.tv (kSlice (kInt .i64)) list1)) (ja R))) ?_
     refine At.vn R R R R (jw R) R (fun hg4=>(jt (jh R hg4) Tryz.underlying89)) ?_
     refine At.vn R R R R (jw R) R (fun hg5=>(jk (jh R hg5) (jh R hg5) vg)) ?_
     refine At.d R R R R (jm (ja R) (ja R) (jl _) vh) ?_
     refine At.done (At.vl ?_)
     refine At.cond (ja R) (fun hb14=>?_) (fun hb14=>?_)
     ·replace hF:=W.ite_t hb14 hF
      refine At.seq (At.region (At.d R R R R (jb (x:=(.tv (kSlice kSegment) all1)) (ja R)) ?_))
      refine At.d R R R R (jb (x:=(.eq v26)) (ja R)) ?_
      refine At.d R R R R (jb (x:=(.eq (.map (some g1)))) (ja R)) ?_
      refine At.freezes 1 [16,154,167] R ⟨R,R,R,trivial⟩ ?_
      replace hF:=W.vq hF
      refine At.f R (jo R R (jq R en_37 (jf (ja R) (jf (ja R) (jf (ja R) jg)))) [0] R (ih hF)) ?_
      rintro _ _ ⟨_,_,⟨r2,hF,rfl,rfl⟩,rfl,rfl⟩
      refine At.done (At.vl (At.seq (At.region (At.d R R R R (jb (x:=(.tv (kSlice kSegment) all1)) (ja R)) ?_))))
      refine At.d R R R R (jb (x:=(.eq v27)) (ja R)) ?_
      refine At.d R R R R (jb (x:=(.eq (.map (some g1)))) (ja R)) ?_
      refine At.freeze2 3 17 171 R R R ?_
      replace hF:=W.vq hF
      refine At.f R (jo R R (jq R en_37 (jf (ja R) (jf (ja R) (jf (ja R) jg)))) [0] R (ih hF)) ?_
      rintro _ _ ⟨_,_,⟨r3,hF,rfl,rfl⟩,rfl,rfl⟩
      refine At.done (At.vl (At.ret (At.vm ?_)))
      exact At.ret_0 rfl  [0] rfl ⟨r3,hF,rfl,rfl⟩
     ·replace hF:=W.ite_f hb14 hF
      refine At.skip (At.vl (At.seq (At.region (At.d R R R R (jb (x:=(.tv (kSlice (kInt .i64)) list1)) (ja R)) ?_))))
      refine At.d R R R R (jt (ja R) Tryz.underlying89) ?_
      refine At.d R R R R (jb (x:=(.tv (kInt .i64) (0:Int))) (ji _ _)) ?_
      refine At.done (At.vl (At.block ?_))
      obtain ⟨n2,hF⟩:=hF
      refine At.w [0] R [(0,(.tv (kSlice kSegment) all1)),(1,(.tv (kSlice (kInt .i64)) list1)),(2,(.eq (.map (some g1)))),(174,(.tv (kSlice (kInt .i64)) list1)),(175,(.tv (kInt .i64) (list1.length:Int))),(176,(.tv (kInt .i64) (0:Int)))] ⟨R,R,R,R,R,R,trivial⟩ ?_
      refine At.loop (fun m rs L=>∃ (x29:(List ((Int×Int)×Int))) (t18:Int),W.iter2 (vu.l1 all1 list1) m x29 t18 Q∧rs=[.map g1 (kPair (kInt .i64) (kInt .i64)) (kInt .i64) x29]∧L=mkL [(0,(.tv (kSlice kSegment) all1)),(1,(.tv (kSlice (kInt .i64)) list1)),(2,(.eq (.map (some g1)))),(174,(.tv (kSlice (kInt .i64)) list1)),(175,(.tv (kInt .i64) (list1.length:Int))),(176,(.tv (kInt .i64) t18))]) ?_ ?_ (m:=n2) ⟨found1,(0:Int),hF,R,R⟩
      ·rintro rs L ⟨_,_,hF,_,_⟩;exact hF
      ·rintro m1 _ _ ⟨x29,t18,hF,rfl,rfl⟩
       replace hF:=W.iter2_s hF
       unfold vu.l1 at hF
       refine At.seq (At.region (At.d R R R R (jk (ja R) (ja R) vg) ?_))
       refine At.done (At.vl (At.seq ?_))
       refine At.cond (ja R) (fun hb25=>?_) (fun hb25=>?_)
       ·replace hF:=W.ite_t hb25 hF
        refine At.skip (At.vl ?_)
        refine At.cut (fun rs L=>∃ (x33:(List ((Int×Int)×Int))),vu.c4 t18 (W.iter2 (vu.l1 all1 list1) m1) x33 Q∧rs=[.map g1 (kPair (kInt .i64) (kInt .i64)) (kInt .i64) x33]∧L=mkL [(0,(.tv (kSlice kSegment) all1)),(1,(.tv (kSlice (kInt .i64)) list1)),(2,(.eq (.map (some g1)))),(174,(.tv (kSlice (kInt .i64)) list1)),(175,(.tv (kInt .i64) (list1.length:Int))),(176,(.tv (kInt .i64) t18))]) ?_ ?_
        ·refine At.block (At.seq (At.region (At.d R R R R (jb (x:=(.tv (kInt .i64) t18)) (ja R)) ?_)))
         obtain ⟨hq49,hF⟩:=hF
         refine At.d R R R R (vj (0:Int) (ja R) (ja R) Tryz.underlying89 ty_3 hq49) ?_
         refine At.d R R R R (vw (K:=(kInt .i64)) (ja R) ty_3) ?_
         refine At.d R R R R (jd (x:=(.tv (kInt .i64) t18)) (ja R)) ?_
         refine At.d R R R R (jd (x:=(.tv (kInt .i64) (rd (0:Int) list1 t18))) (ja R)) ?_
         refine At.done (At.vl (At.seq (At.region (At.d R R R R (jb (x:=(.tv (kSlice (kInt .i64)) list1)) (ja R)) ?_))))
         refine At.d R R R R (jb (x:=(.tv (kInt .i64) t18)) (ja R)) ?_
         refine At.d R R R R (jk (ja R) (ji _ _) vf) ?_
         obtain ⟨hq50,hF⟩:=hF
         refine At.d R R R R (does_cut_l (ja R) (ja R) Tryz.underlying89 ty_3 hq50) ?_
         refine At.d R R R R (jt (ja R) Tryz.underlying89) ?_
         refine At.d R R R R (jb (x:=(.tv (kInt .i64) (0:Int))) (ji _ _)) ?_
         refine At.done (At.vl (At.block ?_))
         obtain ⟨n1,hF⟩:=hF
         refine At.w [0] R [(0,(.tv (kSlice kSegment) all1)),(1,(.tv (kSlice (kInt .i64)) list1)),(2,(.eq (.map (some g1)))),(22,(.tv (kInt .i64) (rd (0:Int) list1 t18))),(174,(.tv (kSlice (kInt .i64)) list1)),(175,(.tv (kInt .i64) (list1.length:Int))),(176,(.tv (kInt .i64) t18)),(184,(.tv (kSlice (kInt .i64)) (cut_l list1 (w64 (t18+(1:Int)))))),(185,(.tv (kInt .i64) ((cut_l list1 (w64 (t18+(1:Int)))).length:Int))),(186,(.tv (kInt .i64) (0:Int)))] ⟨R,R,R,R,R,R,R,R,R,R,trivial⟩ ?_
         refine At.loop (fun m rs L=>∃ (x36:(List ((Int×Int)×Int))) (t24:Int),W.iter2 (vu.l2 all1 list1 t18 (vu.c4 t18 (W.iter2 (vu.l1 all1 list1) m1))) m x36 t24 Q∧rs=[.map g1 (kPair (kInt .i64) (kInt .i64)) (kInt .i64) x36]∧L=mkL [(0,(.tv (kSlice kSegment) all1)),(1,(.tv (kSlice (kInt .i64)) list1)),(2,(.eq (.map (some g1)))),(22,(.tv (kInt .i64) (rd (0:Int) list1 t18))),(174,(.tv (kSlice (kInt .i64)) list1)),(175,(.tv (kInt .i64) (list1.length:Int))),(176,(.tv (kInt .i64) t18)),(184,(.tv (kSlice (kInt .i64)) (cut_l list1 (w64 (t18+(1:Int)))))),(185,(.tv (kInt .i64) ((cut_l list1 (w64 (t18+(1:Int)))).length:Int))),(186,(.tv (kInt .i64) t24))]) ?_ ?_ (m:=n1) ⟨x29,(0:Int),hF,R,R⟩
         ·rintro rs L ⟨_,_,hF,_,_⟩;exact hF
         ·rintro m2 _ _ ⟨x36,t24,hF,rfl,rfl⟩
          replace hF:=W.iter2_s hF
          unfold vu.l2 at hF
          refine At.seq (At.region (At.d R R R R (jk (ja R) (ja R) vg) ?_))
          refine At.done (At.vl (At.seq ?_))
          refine At.cond (ja R) (fun hb34=>?_) (fun hb34=>?_)
          ·replace hF:=W.ite_t hb34 hF
           refine At.skip (At.vl (At.seq (At.block (At.seq (At.region ?_)))))
           obtain ⟨hq57,hF⟩:=hF
           refine At.d R R R R (vj (0:Int) (ja R) (ja R) Tryz.underlying89 ty_3 hq57) ?_
           refine At.d R R R R (vw (K:=(kInt .i64)) (ja R) ty_3) ?_
           refine At.d R R R R (jd (x:=(.tv (kInt .i64) (rd (0:Int) (cut_l list1 (w64 (t18+(1:Int)))) t24))) (ja R)) ?_
           refine At.done (At.vl (At.seq ?_))
           refine At.draw mixed [0] R [[]] (fun φ w hgd=>?_)
           obtain ⟨hq58,hF⟩:=hF
           obtain ⟨hq59,hF⟩:=hF
           replace hF:=W.vq hF
           refine AtH.take [0] hgd 0 R R R R (D':=#[Y,N,N,N,N,N,N,N,N,N]) (by kernel_rfl) (fun _ _ _ _ h=>h) R (jb (x:=(.tv (kSlice kSegment) all1)) (ja R)) ?_
           refine AtH.take [0] hgd 1 R R R R (D':=#[Y,Y,N,N,N,N,N,N,N,N]) (by kernel_rfl) (fun _ _ _ _ h=>h) R (jb (x:=(.tv (kInt .i64) (rd (0:Int) list1 t18))) (ja R)) ?_
           refine AtH.take [0] hgd 2 R R R R (D':=#[Y,Y,Y,N,N,N,N,N,N,N]) (by kernel_rfl) (fun _ _ _ _ h=>h) R (vj zSegment (ja R) (ja R) Tryz.underlying27 ty_39 hq58) ?_
           refine AtH.take [0] hgd 3 R R R R (D':=#[Y,Y,Y,Y,N,N,N,N,N,N]) (by kernel_rfl) (fun _ _ _ _ h=>h) R (vw (K:=kSegment) (ja R) ty_39) ?_
           refine AtH.take [0] hgd 4 R R R R (D':=#[Y,Y,Y,Y,Y,N,N,N,N,N]) (by kernel_rfl) (fun _ _ _ _ h=>h) R (jb (x:=(.tv (kSlice kSegment) all1)) (ja R)) ?_
           refine AtH.take [0] hgd 5 R R R R (D':=#[Y,Y,Y,Y,Y,Y,N,N,N,N]) (by kernel_rfl) (fun _ _ _ _ h=>h) R (jb (x:=(.tv (kInt .i64) (rd (0:Int) (cut_l list1 (w64 (t18+(1:Int)))) t24))) (ja R)) ?_
           refine AtH.take [0] hgd 6 R R R R (D':=#[Y,Y,Y,Y,Y,Y,Y,N,N,N]) (by kernel_rfl) (fun _ _ _ _ h=>h) R (vj zSegment (ja R) (ja R) Tryz.underlying27 ty_39 hq59) ?_
           refine AtH.take [0] hgd 7 R R R R (D':=#[Y,Y,Y,Y,Y,Y,Y,Y,N,N]) (by kernel_rfl) (fun _ _ _ _ h=>h) R (vw (K:=kSegment) (ja R) ty_39) ?_
           refine AtH.all1 8 (by kernel_rfl) ?_
           refine AtH.f [(0,0)] R R R R R R (jn R R jp (jq R en_23 (jf (ja R) (jf (ja R) jg))) (wq.ok hF) (by rintro _ _ ⟨r,_,rfl,_⟩;exact flat_int)) (D':=#[Y,Y,Y,Y,Y,Y,Y,Y,Y,N]) (by kernel_rfl) (by kernel_rfl) ?_
           rintro _ _ ⟨_,_,⟨r12,hF,rfl,rfl⟩,rfl,rfl⟩
           refine ⟨_,.inr ⟨R,flat_int⟩,?_⟩
           refine AtH.take [0] hgd 9 R R R R (D':=#[Y,Y,Y,Y,Y,Y,Y,Y,Y,Y]) (by kernel_rfl) (fun _ _ _ _ h=>h) R (jd (x:=(.tv (kInt .i64) r12)) (ja R)) ?_
           refine AtH.done (by kernel_rfl) ?_
           refine At.vl (At.seq (At.region (At.d R R R R (jb (x:=(.tv (kInt .i64) r12)) (ja R)) ?_)))
           refine At.d R R R R (jk (ja R) (ji _ _) bin_neq) ?_
           refine At.done (At.vl ?_)
           refine At.cond (ja R) (fun hb35=>?_) (fun hb35=>?_)
           ·replace hF:=W.ite_t hb35 hF
            refine At.region (At.d R R R R (jb (x:=(.eq (.map (some g1)))) (ja R)) ?_)
            refine At.d R R R R (jb (x:=(.tv (kInt .i64) (rd (0:Int) list1 t18))) (ja R)) ?_
            refine At.d R R R R (jb (x:=(.tv (kInt .i64) (rd (0:Int) (cut_l list1 (w64 (t18+(1:Int)))) t24))) (ja R)) ?_
            refine At.d R R R R (vd (jr (ja R) (jr (ja R) js)) zr_92 bd_92 R (fills_cons R sub_a92_0 (fills_cons R sub_a92_1 fills_nil))) ?_
            refine At.d R R R R (jb (x:=(.tv (kInt .i64) r12)) (ja R)) ?_
            refine At.f R (eff_mapUpdate R R (ja R) 0 R mt_90 (ja R) (ja R)) ?_
            rintro _ _ ⟨rfl,rfl⟩
            refine At.done ?_
            refine At.n ?_
            refine At.vl (At.region (At.d R R R R (jk (ja R) (ji _ _) vf) ?_))
            refine At.d R R R R (jb (x:=(.tv (kInt .i64) (w64 (t24+(1:Int))))) (ja R)) ?_
            refine At.done (At.vl ?_)
            refine At.w [0] R [(0,(.tv (kSlice kSegment) all1)),(1,(.tv (kSlice (kInt .i64)) list1)),(2,(.eq (.map (some g1)))),(22,(.tv (kInt .i64) (rd (0:Int) list1 t18))),(174,(.tv (kSlice (kInt .i64)) list1)),(175,(.tv (kInt .i64) (list1.length:Int))),(176,(.tv (kInt .i64) t18)),(184,(.tv (kSlice (kInt .i64)) (cut_l list1 (w64 (t18+(1:Int)))))),(185,(.tv (kInt .i64) ((cut_l list1 (w64 (t18+(1:Int)))).length:Int))),(186,(.tv (kInt .i64) (w64 (t24+(1:Int)))))] ⟨R,R,R,R,R,R,R,R,R,R,trivial⟩ (At.r ⟨(mset ((rd (0:Int) list1 t18),(rd (0:Int) (cut_l list1 (w64 (t18+(1:Int)))) t24)) r12 x36),(w64 (t24+(1:Int))),hF,R,R⟩)
           ·replace hF:=W.ite_f hb35 hF
            refine At.skip ?_
            refine At.n ?_
            refine At.vl (At.region (At.d R R R R (jk (ja R) (ji _ _) vf) ?_))
            refine At.d R R R R (jb (x:=(.tv (kInt .i64) (w64 (t24+(1:Int))))) (ja R)) ?_
            refine At.done (At.vl ?_)
            refine At.w [0] R [(0,(.tv (kSlice kSegment) all1)),(1,(.tv (kSlice (kInt .i64)) list1)),(2,(.eq (.map (some g1)))),(22,(.tv (kInt .i64) (rd (0:Int) list1 t18))),(174,(.tv (kSlice (kInt .i64)) list1)),(175,(.tv (kInt .i64) (list1.length:Int))),(176,(.tv (kInt .i64) t18)),(184,(.tv (kSlice (kInt .i64)) (cut_l list1 (w64 (t18+(1:Int)))))),(185,(.tv (kInt .i64) ((cut_l list1 (w64 (t18+(1:Int)))).length:Int))),(186,(.tv (kInt .i64) (w64 (t24+(1:Int)))))] ⟨R,R,R,R,R,R,R,R,R,R,trivial⟩ (At.r ⟨x36,(w64 (t24+(1:Int))),hF,R,R⟩)
          ·replace hF:=W.ite_f hb34 hF
           refine At.exit ?_
           refine At.x (At.x ?_)
           refine At.h ?_
           refine At.n ?_
           refine At.vl ?_
           refine At.w [0] R [(0,(.tv (kSlice kSegment) all1)),(1,(.tv (kSlice (kInt .i64)) list1)),(2,(.eq (.map (some g1)))),(174,(.tv (kSlice (kInt .i64)) list1)),(175,(.tv (kInt .i64) (list1.length:Int))),(176,(.tv (kInt .i64) t18))] ⟨R,R,R,R,R,R,trivial⟩ (At.r ⟨x36,hF,R,R⟩)
        ·rintro _ _ ⟨x33,hF,rfl,rfl⟩
         unfold vu.c4 at hF
         refine At.region (At.d R R R R (jk (ja R) (ji _ _) vf) ?_)
         refine At.d R R R R (jb (x:=(.tv (kInt .i64) (w64 (t18+(1:Int))))) (ja R)) ?_
         refine At.done (At.vl ?_)
         refine At.w [0] R [(0,(.tv (kSlice kSegment) all1)),(1,(.tv (kSlice (kInt .i64)) list1)),(2,(.eq (.map (some g1)))),(174,(.tv (kSlice (kInt .i64)) list1)),(175,(.tv (kInt .i64) (list1.length:Int))),(176,(.tv (kInt .i64) (w64 (t18+(1:Int)))))] ⟨R,R,R,R,R,R,trivial⟩ (At.r ⟨x33,(w64 (t18+(1:Int))),hF,R,R⟩)
       ·replace hF:=W.ite_f hb25 hF
        refine At.exit ?_
        refine At.x (At.x ?_)
        refine At.h ?_
        refine At.norm ?_
        exact At.ret_0 rfl  [0] rfl ⟨x29,hF,rfl,rfl⟩
theorem vu.ok {all1:(List Segment)} {list1:(List Int)} {found1:(List ((Int×Int)×Int))} {g1:Nat} {Q:(List ((Int×Int)×Int))→Prop} (hF:vu.F all1 list1 found1 Q):Con Tryz.prog 37 [.tv (kSlice kSegment) all1,.tv (kSlice (kInt .i64)) list1,.eq (.map (some g1))] [.map g1 (kPair (kInt .i64) (kInt .i64)) (kInt .i64) found1] (fun ta rs'=>∃ (r:(List ((Int×Int)×Int))),Q r∧ta=.eq (.tuple #[])∧rs'=[.map g1 (kPair (kInt .i64) (kInt .i64)) (kInt .i64) r]):=by
 obtain ⟨n,hF⟩:=hF
 exact vu.okn n hF
def wg.c1 (m1:Map) (x4:(List (BA×Int))):W (Va×Bool):=W.ret (({ (⟨m1,([]:List (BA×Int))⟩:Va) with at_:=x4 }:Va),true)
def wg.l1 (m1:Map) (K1:(List (BA×Int))→W (Va×Bool)) (A1:(List (BA×Int))→Int→W (Va×Bool)) (x7:(List (BA×Int))) (t6:Int):W (Va×Bool):=W.ite (decide (t6<(m1.Objects.length:Int))) (W.req (0≤t6∧t6<(m1.Objects.length:Int)) (A1 (mset ((rd zObject m1.Objects t6).Id) t6 x7) (w64 (t6+(1:Int))))) (K1 x7)
def wg.F (m1:Map):W (Va×Bool):=W.bind (qj.F m1) (fun r1=>W.ite (!r1) (W.ret ((⟨zMap,([]:List (BA×Int))⟩:Va),false)) (W.ex fun n=>W.iter2 (wg.l1 m1 (wg.c1 m1)) n ([]:(List (BA×Int))) (0:Int)))
theorem wg.ok {m1:Map} {Q:(Va×Bool)→Prop} (hF:wg.F m1 Q):Con Tryz.prog 30 [.tv kMap m1] [] (fun ta rs'=>∃ (r:(Va×Bool)),Q r∧ta=.tup2 (.tv Jy r.1) (.tv kBool r.2)∧rs'=[]):=by
 refine Con.i Tryz.func30 Tryz.ntmps30 R R (fun C=>?_)
 unfold wg.F at hF
 refine At.seq (At.region (At.f R (jy R R R (ja R)) ?_))
 rintro _ _ ⟨g1,rfl,rfl⟩
 refine At.f R (eff_alloc R R R tz_76) ?_
 rintro _ _ ⟨g2,rfl,rfl⟩
 refine At.d R R R R (jd (x:=(.tv kBool false)) (jl _)) ?_
 refine At.done (At.vl (At.seq (At.seq (At.region (At.d R R R R (jc (ja R) 1 R (Sub.self kMap) ty_24) ?_)))))
 replace hF:=W.vq hF
 refine At.f R (jn R R jp (jq R en_20 (jf (ja R) jg)) (qj.ok hF) (by rintro _ _ ⟨r,_,rfl,_⟩;exact vp)) ?_
 rintro _ _ ⟨_,_,⟨r1,hF,rfl,rfl⟩,rfl,rfl⟩
 refine At.d R R R R (ve (ja R)) ?_
 refine At.done (At.vl ?_)
 refine At.cond (ja R) (fun hb1=>?_) (fun hb1=>?_)
 ·replace hF:=W.ite_t hb1 hF
  refine At.seq (At.region (At.d R R R R (vd js zr_76 bd_76 R fills_nil) ?_))
  refine At.f R (jz R R (ja R) 0 R (Sub.self Jy) ty_76 (ja R)) ?_
  rintro _ _ ⟨rfl,rfl⟩
  refine At.d R R R R (jd (x:=(.tv kBool false)) (jl _)) ?_
  refine At.done (At.vl (At.ret (At.vm ?_)))
  exact At.ret_2 rfl (rv_cell rfl 0 rfl ty_76) (rv_tmp rfl) [] rfl ⟨((⟨zMap,([]:List (BA×Int))⟩:Va),false),hF,rfl,rfl⟩
 ·replace hF:=W.ite_f hb1 hF
  refine At.skip (At.vl (At.seq (At.region (At.d R R R R (jc (ja R) 1 R (Sub.self kMap) ty_24) ?_))))
  refine At.f R (eff_makeMap R R R kStr (kInt .i64)) ?_
  rintro _ _ ⟨g3,rfl,rfl⟩
  refine At.d R R R R (vd (K:=(kPair kMap kRaw)) (z:=(zt.m,(.map none))) (y:=((⟨m1,([]:List (BA×Int))⟩:Va).m,(.map (some g3)))) (jr (ja R) (jr (opd_raw (ja R) R) js)) (fun φ=>⟨[.slice none 0 0],[.map none],R,⟨none,0,R,Nat.le_refl _,by simp [maxLen],fun h=>absurd R h⟩,⟨R,R⟩⟩) bd_76 R (fills_cons R (Sub.fst (Sub.self kMap)) (fills_cons R (Sub.snd (Sub.self kRaw)) fills_nil))) ?_
  refine At.f R (eff_alloc R R R tz_76) ?_
  rintro _ _ ⟨g4,rfl,rfl⟩
  refine At.f R (eff_store_swap (K':=(kPair kMap kRaw)) (x':=((⟨m1,([]:List (BA×Int))⟩:Va).m,(.map (some g3)))) R R (ja R) 0 R (Swap.whole R) (Ty.turn ty_76 R R) (ja R)) ?_
  rintro _ _ ⟨rfl,rfl⟩
  refine At.done (At.vl ?_)
  refine At.cut (fun rs L=>∃ (x4:(List (BA×Int))),wg.c1 m1 x4 Q∧rs=[.box g2 76 Jy zt,.box g4 76 (kPair kMap kRaw) ((⟨m1,([]:List (BA×Int))⟩:Va).m,(.map (some g3))),.map g3 kStr (kInt .i64) x4]∧L=mkL [(2,(.eq (.pointer (some ⟨g2,0,none⟩)))),(4,(.eq (.pointer (some ⟨g4,0,none⟩))))]) ?_ ?_
  ·refine At.seq (At.region (At.d R R R R (je (ja R) qq) ?_))
   refine At.d R R R R (jc (ja R) 3 R qc ty_22) ?_
   refine At.d R R R R (jt (ja R) Tryz.underlying22) ?_
   refine At.d R R R R (jb (x:=(.tv (kInt .i64) (0:Int))) (ji _ _)) ?_
   refine At.done (At.vl (At.block ?_))
   obtain ⟨n1,hF⟩:=hF
   refine At.w [2,0,1] R [(2,(.eq (.pointer (some ⟨g2,0,none⟩)))),(4,(.eq (.pointer (some ⟨g4,0,none⟩)))),(15,(.tv (kSlice kObject) m1.Objects)),(16,(.tv (kInt .i64) (m1.Objects.length:Int))),(17,(.tv (kInt .i64) (0:Int)))] ⟨R,R,R,R,R,trivial⟩ ?_
   refine At.loop (fun m rs L=>∃ (x7:(List (BA×Int))) (t6:Int),W.iter2 (wg.l1 m1 (wg.c1 m1)) m x7 t6 Q∧rs=[.box g2 76 Jy zt,.box g4 76 (kPair kMap kRaw) ((⟨m1,([]:List (BA×Int))⟩:Va).m,(.map (some g3))),.map g3 kStr (kInt .i64) x7]∧L=mkL [(2,(.eq (.pointer (some ⟨g2,0,none⟩)))),(4,(.eq (.pointer (some ⟨g4,0,none⟩)))),(15,(.tv (kSlice kObject) m1.Objects)),(16,(.tv (kInt .i64) (m1.Objects.length:Int))),(17,(.tv (kInt .i64) t6))]) ?_ ?_ (m:=n1) ⟨([]:(List (BA×Int))),(0:Int),hF,R,R⟩
   ·rintro rs L ⟨_,_,hF,_,_⟩;exact hF
   ·rintro m2 _ _ ⟨x7,t6,hF,rfl,rfl⟩
    replace hF:=W.iter2_s hF
    unfold wg.l1 at hF
    refine At.seq (At.region (At.d R R R R (jk (ja R) (ja R) vg) ?_))
    refine At.done (At.vl (At.seq ?_))
    refine At.cond (ja R) (fun hb6=>?_) (fun hb6=>?_)
    ·replace hF:=W.ite_t hb6 hF
     refine At.skip (At.vl (At.seq (At.block (At.seq (At.region (At.d R R R R (jb (x:=(.tv (kInt .i64) t6)) (ja R)) ?_))))))
     obtain ⟨hq5,hF⟩:=hF
     refine At.d R R R R (vj zObject (ja R) (ja R) Tryz.underlying22 ty_59 hq5) ?_
     refine At.d R R R R (vw (K:=kObject) (ja R) ty_59) ?_
     refine At.f R (eff_alloc R R R tz_59) ?_
     rintro _ _ ⟨g9,rfl,rfl⟩
     refine At.d R R R R (jd (x:=(.tv (kInt .i64) t6)) (ja R)) ?_
     refine At.f R (jz R R (ja R) 0 R (Sub.self kObject) ty_59 (ja R)) ?_
     rintro _ _ ⟨rfl,rfl⟩
     refine At.done (At.vl (At.region (At.d R R R R (je (ja R) fa_76_1) ?_)))
     refine At.d R R R R (does_load_raw (ja R) 2 R (Sub.snd (Sub.self kRaw)) tyr_74 R) ?_
     refine At.d R R R R (je (ja R) zg) ?_
     refine At.d R R R R (jc (ja R) 0 R qm ty_9) ?_
     refine At.d R R R R (jb (x:=(.tv (kInt .i64) t6)) (ja R)) ?_
     refine At.f R (eff_mapUpdate R R (ja R) 3 R mt_74 (ja R) (ja R)) ?_
     rintro _ _ ⟨rfl,rfl⟩
     refine At.done ?_
     refine At.n ?_
     refine At.vl (At.region (At.d R R R R (jk (ja R) (ji _ _) vf) ?_))
     refine At.d R R R R (jb (x:=(.tv (kInt .i64) (w64 (t6+(1:Int))))) (ja R)) ?_
     refine At.done (At.vl ?_)
     refine At.w [1,2,3] R [(2,(.eq (.pointer (some ⟨g2,0,none⟩)))),(4,(.eq (.pointer (some ⟨g4,0,none⟩)))),(15,(.tv (kSlice kObject) m1.Objects)),(16,(.tv (kInt .i64) (m1.Objects.length:Int))),(17,(.tv (kInt .i64) (w64 (t6+(1:Int)))))] ⟨R,R,R,R,R,trivial⟩ (At.r ⟨(mset ((rd zObject m1.Objects t6).Id) t6 x7),(w64 (t6+(1:Int))),hF,R,R⟩)
    ·replace hF:=W.ite_f hb6 hF
     refine At.exit ?_
     refine At.x (At.x ?_)
     refine At.h ?_
     refine At.vl ?_
     refine At.w [0,1,2] R [(2,(.eq (.pointer (some ⟨g2,0,none⟩)))),(4,(.eq (.pointer (some ⟨g4,0,none⟩))))] ⟨R,R,trivial⟩ (At.r ⟨x7,hF,R,R⟩)
  ·rintro _ _ ⟨x4,hF,rfl,rfl⟩
   unfold wg.c1 at hF
   refine At.seq (At.region (At.d R R R R (jc (ja R) 1 R (Sub.self (kPair kMap kRaw)) (Ty.turn ty_76 R R)) ?_))
   refine At.f R (eff_store_swap (K':=(kPair kMap kRaw)) (x':=((⟨m1,([]:List (BA×Int))⟩:Va).m,(.map (some g3)))) R R (ja R) 0 R (Swap.whole R) (Ty.turn ty_76 R R) (ja R)) ?_
   rintro _ _ ⟨rfl,rfl⟩
   refine At.d R R R R (jd (x:=(.tv kBool true)) (jl _)) ?_
   refine At.done (At.vl (At.ret ?_))
   refine At.mapfreeze 2 [] R trivial ?_
   refine At.boxtold 0 (K':=Jy) (y:=({ (⟨m1,([]:List (BA×Int))⟩:Va) with at_:=x4 }:Va)) R (Turn.isoR (Turn.pair (Turn.refl _ _) (Turn.fmap (j:=2) R))) ?_
   refine At.boxtold 1 (K':=Jy) (y:=({ (⟨m1,([]:List (BA×Int))⟩:Va) with at_:=x4 }:Va)) R (Turn.isoR (Turn.pair (Turn.refl _ _) (Turn.fmap (j:=2) R))) ?_
   refine At.slottold 28 (K':=Jy) (y:=({ (⟨m1,([]:List (BA×Int))⟩:Va) with at_:=x4 }:Va)) R (Turn.isoR (Turn.pair (Turn.refl _ _) (Turn.fmap (j:=2) R))) R ?_
   exact At.ret_2 rfl (rv_cell rfl 0 rfl ty_76) (rv_tmp rfl) [] rfl ⟨(({ (⟨m1,([]:List (BA×Int))⟩:Va) with at_:=x4 }:Va),true),hF,rfl,rfl⟩
def qx.F (id1:BA) (t1:Va):W Bool:=W.req ((!(!(mhas id1 t1.at_)))=true→0≤(mget id1 (0:Int) t1.at_)∧(mget id1 (0:Int) t1.at_)<(t1.m.Objects.length:Int)) (W.ret ((!(mhas id1 t1.at_))||(((rd zObject t1.m.Objects (mget id1 (0:Int) t1.at_)).Kind) != (1:Int))))
theorem qx.ok {id1:BA} {t1:Va} {Q:Bool→Prop} (hF:qx.F id1 t1 Q):Con Tryz.prog 101 [.tv kStr id1,.ptr Jy t1] [] (fun ta rs'=>∃ (r:Bool),Q r∧ta=.tv kBool r∧rs'=[]):=by
 refine Con.i Tryz.func101 Tryz.ntmps101 R R (fun C=>?_)
 unfold qx.F at hF
 refine At.seq (At.region (At.d R R R R (jd (x:=(.tv kBool false)) (jl _)) ?_))
 refine At.done (At.vl (At.seq (At.region (At.d R R R R (Ji (K:=Jy) (ja R) fa_76_1 sub_border_parcel_1) ?_))))
 refine At.d R R R R (vw (K:=(kMp kStr (kInt .i64))) (ja R) ty_74) ?_
 refine At.d R R R R (jb (x:=(.tv kStr id1)) (ja R)) ?_
 refine At.d R R R R (does_lookOkF (ja R) mt_74 (ja R)) ?_
 refine At.d R R R R (jb (x:=(.tup2 (.tv (kInt .i64) (mget id1 (0:Int) t1.at_)) (.tv kBool (mhas id1 t1.at_)))) (ja R)) ?_
 refine At.d R R R R (does_extract20 (ja R)) ?_
 refine At.d R R R R (does_extract21 (ja R)) ?_
 refine At.d R R R R (jd (x:=(.tv (kInt .i64) (mget id1 (0:Int) t1.at_))) (ja R)) ?_
 refine At.d R R R R (jd (x:=(.tv kBool (mhas id1 t1.at_))) (ja R)) ?_
 refine At.done (At.vl (At.seq (At.region (At.d R R R R (jb (x:=(.tv kBool (mhas id1 t1.at_))) (ja R)) ?_))))
 refine At.d R R R R (ve (ja R)) ?_
 refine At.d R R R R (jb (x:=(.tv kBool (!(mhas id1 t1.at_)))) (ja R)) ?_
 refine At.vn R R R R (jx R) R (fun hg1=>(Ji (K:=Jy) (ja R) fa_76_0 sub_border_parcel_0)) ?_
 refine At.vn R R R R (jx R) R (fun hg2=>(Ji (K:=kMap) (jh R hg2) qq qc)) ?_
 refine At.vn R R R R (jx R) R (fun hg3=>(vw (K:=(kSlice kObject)) (jh R hg3) ty_22)) ?_
 refine At.vn R R R R (jx R) R (fun hg4=>(jb (x:=(.tv (kInt .i64) (mget id1 (0:Int) t1.at_))) (ja R))) ?_
 obtain ⟨hq1,hF⟩:=hF
 refine At.vn R R R R (jx R) R (fun hg5=>(vj zObject (jh R hg5) (jh R hg5) Tryz.underlying22 ty_59 (hq1 hg5))) ?_
 refine At.vn R R R R (jx R) R (fun hg6=>(Ji (K:=kObject) (jh R hg6) yj qa)) ?_
 refine At.vn R R R R (jx R) R (fun hg7=>(vw (K:=(kInt .i64)) (jh R hg7) ty_3)) ?_
 refine At.vn R R R R (jx R) R (fun hg8=>(jk (jh R hg8) (ji _ _) bin_neq)) ?_
 refine At.d R R R R (jm (ja R) (jl _) (ja R) vi) ?_
 refine At.d R R R R (jd (x:=(.tv kBool ((!(mhas id1 t1.at_))||(((rd zObject t1.m.Objects (mget id1 (0:Int) t1.at_)).Kind) != (1:Int))))) (ja R)) ?_
 refine At.done (At.vl (At.ret ?_))
 exact At.j rfl (rv_tmp rfl) [] rfl ⟨((!(mhas id1 t1.at_))||(((rd zObject t1.m.Objects (mget id1 (0:Int) t1.at_)).Kind) != (1:Int))),hF,rfl,rfl⟩
def Jc.c1:W Int:=W.ret (-1:Int)
def Jc.l1 (s1:(List BA)) (c1:Va) (K1:W Int) (A1:Int→W Int) (t6:Int):W Int:=W.ite (decide (t6<(s1.length:Int))) (W.req (0≤t6∧t6<(s1.length:Int)) (W.bind (qx.F (rd (⟨#[]⟩:BA) s1 t6) c1) (fun r5=>W.ite r5 (W.ret t6) (A1 (w64 (t6+(1:Int))))))) (K1)
def Jc.F (s1:(List BA)) (c1:Va):W Int:=W.ex fun n=>W.iter1 (Jc.l1 s1 c1 (Jc.c1)) n (0:Int)
theorem Jc.ok {s1:(List BA)} {c1:Va} {Q:Int→Prop} (hF:Jc.F s1 c1 Q):Con Tryz.prog 131 [.tv (kSlice kStr) s1,.cls 101 0 (tupl [.ptr Jy c1])] [] (fun ta rs'=>∃ (r:Int),Q r∧ta=.tv (kInt .i64) r∧rs'=[]):=by
 refine Con.i Tryz.func131 Tryz.ntmps131 R R (fun C=>?_)
 unfold Jc.F at hF
 refine At.seq (At.region (At.d R R R R (jd (x:=(.tv (kInt .i64) (0:Int))) (ji _ _)) ?_))
 refine At.done (At.vl ?_)
 refine At.cut (fun rs L=>∃ _:Unit,Jc.c1 Q∧rs=[]∧L=mkL []) ?_ ?_
 ·refine At.seq (At.region (At.d R R R R (jb (x:=(.tv (kSlice kStr) s1)) (ja R)) ?_))
  refine At.d R R R R (jt (ja R) Tryz.underlying41) ?_
  refine At.d R R R R (jb (x:=(.tv (kInt .i64) (0:Int))) (ji _ _)) ?_
  refine At.done (At.vl (At.block ?_))
  obtain ⟨n1,hF⟩:=hF
  refine At.w [] R [(0,(.tv (kSlice kStr) s1)),(1,(.cls 101 0 (tupl [(.ptr Jy c1)]))),(7,(.tv (kInt .i64) (s1.length:Int))),(8,(.tv (kInt .i64) (0:Int)))] ⟨R,R,R,R,trivial⟩ ?_
  refine At.loop (fun m rs L=>∃ (t6:Int),W.iter1 (Jc.l1 s1 c1 (Jc.c1)) m t6 Q∧rs=[]∧L=mkL [(0,(.tv (kSlice kStr) s1)),(1,(.cls 101 0 (tupl [(.ptr Jy c1)]))),(7,(.tv (kInt .i64) (s1.length:Int))),(8,(.tv (kInt .i64) t6))]) ?_ ?_ (m:=n1) ⟨(0:Int),hF,R,R⟩
  ·rintro rs L ⟨_,hF,_,_⟩;exact hF
  ·rintro m1 _ _ ⟨t6,hF,rfl,rfl⟩
   replace hF:=W.iter1_s hF
   unfold Jc.l1 at hF
   refine At.seq (At.region (At.d R R R R (jk (ja R) (ja R) vg) ?_))
   refine At.done (At.vl (At.seq ?_))
   refine At.cond (ja R) (fun hb9=>?_) (fun hb9=>?_)
   ·replace hF:=W.ite_t hb9 hF
    refine At.skip (At.vl (At.seq (At.block (At.seq (At.region (At.d R R R R (jb (x:=(.tv (kInt .i64) t6)) (ja R)) ?_))))))
    refine At.d R R R R (jd (x:=(.tv (kInt .i64) t6)) (ja R)) ?_
    refine At.done (At.vl (At.seq (At.region (At.d R R R R (jb (x:=(.cls 101 0 (tupl [(.ptr Jy c1)]))) (ja R)) ?_))))
    refine At.d R R R R (jb (x:=(.tv (kSlice kStr) s1)) (ja R)) ?_
    refine At.d R R R R (jb (x:=(.tv (kInt .i64) t6)) (ja R)) ?_
    obtain ⟨hq5,hF⟩:=hF
    refine At.d R R R R (vj (⟨#[]⟩:BA) (ja R) (ja R) Tryz.underlying41 ty_9 hq5) ?_
    refine At.d R R R R (vw (K:=kStr) (ja R) ty_9) ?_
    replace hF:=W.vq hF
    refine At.f R (jn R R jp (ent_val0 R (ja R) en_101 (jf (ja R) jg)) (qx.ok hF) (by rintro _ _ ⟨r,_,rfl,_⟩;exact vp)) ?_
    rintro _ _ ⟨_,_,⟨r5,hF,rfl,rfl⟩,rfl,rfl⟩
    refine At.done (At.vl ?_)
    refine At.cond (ja R) (fun hb10=>?_) (fun hb10=>?_)
    ·replace hF:=W.ite_t hb10 hF
     refine At.seq (At.region (At.d R R R R (jb (x:=(.tv (kInt .i64) t6)) (ja R)) ?_))
     refine At.d R R R R (jd (x:=(.tv (kInt .i64) t6)) (ja R)) ?_
     refine At.done (At.vl (At.ret ?_))
     refine At.q ?_
     refine At.vm (At.vm ?_)
     refine At.q ?_
     refine At.vm ?_
     exact At.j rfl (rv_tmp rfl) [] rfl ⟨t6,hF,rfl,rfl⟩
    ·replace hF:=W.ite_f hb10 hF
     refine At.skip ?_
     refine At.n ?_
     refine At.vl (At.region (At.d R R R R (jk (ja R) (ji _ _) vf) ?_))
     refine At.d R R R R (jb (x:=(.tv (kInt .i64) (w64 (t6+(1:Int))))) (ja R)) ?_
     refine At.done (At.vl ?_)
     refine At.w [] R [(0,(.tv (kSlice kStr) s1)),(1,(.cls 101 0 (tupl [(.ptr Jy c1)]))),(7,(.tv (kInt .i64) (s1.length:Int))),(8,(.tv (kInt .i64) (w64 (t6+(1:Int)))))] ⟨R,R,R,R,trivial⟩ (At.r ⟨(w64 (t6+(1:Int))),hF,R,R⟩)
   ·replace hF:=W.ite_f hb9 hF
    refine At.exit ?_
    refine At.x (At.x ?_)
    refine At.h ?_
    refine At.vl ?_
    refine At.w [] R [] trivial (At.r ⟨(),hF,R,R⟩)
 ·rintro _ _ ⟨_,hF,rfl,rfl⟩
  unfold Jc.c1 at hF
  refine At.seq (At.region (At.d R R R R (jd (x:=(.tv (kInt .i64) (-1:Int))) (ji _ _)) ?_))
  refine At.done (At.vl (At.ret ?_))
  exact At.j rfl (rv_tmp rfl) [] rfl ⟨(-1:Int),hF,rfl,rfl⟩
def Jp.F (s1:(List BA)) (c1:Va):W Bool:=W.bind (Jc.F s1 c1) (fun r1=>W.ret (decide ((0:Int)≤r1)))
theorem Jp.ok {s1:(List BA)} {c1:Va} {Q:Bool→Prop} (hF:Jp.F s1 c1 Q):Con Tryz.prog 85 [.tv (kSlice kStr) s1,.cls 101 0 (tupl [.ptr Jy c1])] [] (fun ta rs'=>∃ (r:Bool),Q r∧ta=.tv kBool r∧rs'=[]):=by
 refine Con.i Tryz.func85 Tryz.ntmps85 R R (fun C=>?_)
 unfold Jp.F at hF
 refine At.seq (At.region (At.d R R R R (jd (x:=(.tv kBool false)) (jl _)) ?_))
 refine At.done (At.vl (At.seq (At.region (At.d R R R R (jb (x:=(.tv (kSlice kStr) s1)) (ja R)) ?_))))
 refine At.d R R R R (jb (x:=(.cls 101 0 (tupl [(.ptr Jy c1)]))) (ja R)) ?_
 replace hF:=W.vq hF
 refine At.f R (jn R R jp (jq R en_131 (jf (ja R) (jf (ja R) jg))) (Jc.ok hF) (by rintro _ _ ⟨r,_,rfl,_⟩;exact flat_int)) ?_
 rintro _ _ ⟨_,_,⟨r1,hF,rfl,rfl⟩,rfl,rfl⟩
 refine At.d R R R R (jk (ja R) (ji _ _) bin_geq) ?_
 refine At.d R R R R (jd (x:=(.tv kBool (decide ((0:Int)≤r1)))) (ja R)) ?_
 refine At.done (At.vl (At.ret ?_))
 exact At.j rfl (rv_tmp rfl) [] rfl ⟨(decide ((0:Int)≤r1)),hF,rfl,rfl⟩
def wh.F (p1:Va) (o1:Object):W Bool:=W.bind (Jp.F o1.Refs p1) (fun r1=>W.ret (!r1))
theorem wh.ok {p1:Va} {o1:Object} {Q:Bool→Prop} (hF:wh.F p1 o1 Q):Con Tryz.prog 65 [.tv Jy p1,.tv kObject o1] [] (fun ta rs'=>∃ (r:Bool),Q r∧ta=.tv kBool r∧rs'=[]):=by
 refine Con.i Tryz.func65 Tryz.ntmps65 R R (fun C=>?_)
 unfold wh.F at hF
 refine At.seq (At.region (At.f R (jy R R R (ja R)) ?_))
 rintro _ _ ⟨g1,rfl,rfl⟩
 refine At.f R (jy R R R (ja R)) ?_
 rintro _ _ ⟨g2,rfl,rfl⟩
 refine At.d R R R R (jd (x:=(.tv kBool false)) (jl _)) ?_
 refine At.done (At.vl (At.seq (At.region (At.d R R R R (je (ja R) qz) ?_))))
 refine At.d R R R R (jc (ja R) 0 R Vl ty_41) ?_
 refine At.d R R R R (does_cls (firsts:=[]) (caps:=[.tmp 2]) R (jf (ja R) jg)) ?_
 replace hF:=W.vq hF
 refine At.f R (jn R R (lends_box 1 7 R R (lend1_cls (lend1_here lend1_ptr)) jp) (jq R en_85 (jf (ja R) (jf (ja R) jg))) (Jp.ok hF) (by rintro _ _ ⟨r,_,rfl,_⟩;exact vp)) ?_
 rintro _ _ ⟨_,_,⟨r1,hF,rfl,rfl⟩,rfl,rfl⟩
 refine At.d R R R R (ve (ja R)) ?_
 refine At.d R R R R (jd (x:=(.tv kBool (!r1))) (ja R)) ?_
 refine At.done (At.vl (At.ret ?_))
 exact At.j rfl (rv_tmp rfl) [] rfl ⟨(!r1),hF,rfl,rfl⟩
def Jn.c1:W Int:=W.ret (-1:Int)
def Jn.l1 (s1:(List BA)) (v1:BA) (K1:W Int) (A1:Int→W Int) (t6:Int):W Int:=W.ite (decide (t6<(s1.length:Int))) (W.req (0≤t6∧t6<(s1.length:Int)) (W.ite (sEq v1 (rd (⟨#[]⟩:BA) s1 t6)) (W.ret t6) (A1 (w64 (t6+(1:Int)))))) (K1)
def Jn.F (s1:(List BA)) (v1:BA):W Int:=W.ex fun n=>W.iter1 (Jn.l1 s1 v1 (Jn.c1)) n (0:Int)
theorem Jn.ok {s1:(List BA)} {v1:BA} {Q:Int→Prop} (hF:Jn.F s1 v1 Q):Con Tryz.prog 69 [.tv (kSlice kStr) s1,.tv kStr v1] [] (fun ta rs'=>∃ (r:Int),Q r∧ta=.tv (kInt .i64) r∧rs'=[]):=by
 refine Con.i Tryz.func69 Tryz.ntmps69 R R (fun C=>?_)
 unfold Jn.F at hF
 refine At.seq (At.region (At.d R R R R (jd (x:=(.tv (kInt .i64) (0:Int))) (ji _ _)) ?_))
 refine At.done (At.vl ?_)
 refine At.cut (fun rs L=>∃ _:Unit,Jn.c1 Q∧rs=[]∧L=mkL []) ?_ ?_
 ·refine At.seq (At.region (At.d R R R R (jb (x:=(.tv (kSlice kStr) s1)) (ja R)) ?_))
  refine At.d R R R R (jt (ja R) Tryz.underlying41) ?_
  refine At.d R R R R (jb (x:=(.tv (kInt .i64) (0:Int))) (ji _ _)) ?_
  refine At.done (At.vl (At.block ?_))
  obtain ⟨n1,hF⟩:=hF
  refine At.w [] R [(0,(.tv (kSlice kStr) s1)),(1,(.tv kStr v1)),(7,(.tv (kInt .i64) (s1.length:Int))),(8,(.tv (kInt .i64) (0:Int)))] ⟨R,R,R,R,trivial⟩ ?_
  refine At.loop (fun m rs L=>∃ (t6:Int),W.iter1 (Jn.l1 s1 v1 (Jn.c1)) m t6 Q∧rs=[]∧L=mkL [(0,(.tv (kSlice kStr) s1)),(1,(.tv kStr v1)),(7,(.tv (kInt .i64) (s1.length:Int))),(8,(.tv (kInt .i64) t6))]) ?_ ?_ (m:=n1) ⟨(0:Int),hF,R,R⟩
  ·rintro rs L ⟨_,hF,_,_⟩;exact hF
  ·rintro m1 _ _ ⟨t6,hF,rfl,rfl⟩
   replace hF:=W.iter1_s hF
   unfold Jn.l1 at hF
   refine At.seq (At.region (At.d R R R R (jk (ja R) (ja R) vg) ?_))
   refine At.done (At.vl (At.seq ?_))
   refine At.cond (ja R) (fun hb9=>?_) (fun hb9=>?_)
   ·replace hF:=W.ite_t hb9 hF
    refine At.skip (At.vl (At.seq (At.block (At.seq (At.region (At.d R R R R (jb (x:=(.tv (kInt .i64) t6)) (ja R)) ?_))))))
    refine At.d R R R R (jd (x:=(.tv (kInt .i64) t6)) (ja R)) ?_
    refine At.done (At.vl (At.seq (At.region (At.d R R R R (jb (x:=(.tv kStr v1)) (ja R)) ?_))))
    refine At.d R R R R (jb (x:=(.tv (kSlice kStr) s1)) (ja R)) ?_
    refine At.d R R R R (jb (x:=(.tv (kInt .i64) t6)) (ja R)) ?_
    obtain ⟨hq5,hF⟩:=hF
    refine At.d R R R R (vj (⟨#[]⟩:BA) (ja R) (ja R) Tryz.underlying41 ty_9 hq5) ?_
    refine At.d R R R R (vw (K:=kStr) (ja R) ty_9) ?_
    refine At.d R R R R (jk (ja R) (ja R) bin_seql) ?_
    refine At.done (At.vl ?_)
    refine At.cond (ja R) (fun hb10=>?_) (fun hb10=>?_)
    ·replace hF:=W.ite_t hb10 hF
     refine At.seq (At.region (At.d R R R R (jb (x:=(.tv (kInt .i64) t6)) (ja R)) ?_))
     refine At.d R R R R (jd (x:=(.tv (kInt .i64) t6)) (ja R)) ?_
     refine At.done (At.vl (At.ret ?_))
     refine At.q ?_
     refine At.vm (At.vm ?_)
     refine At.q ?_
     refine At.vm ?_
     exact At.j rfl (rv_tmp rfl) [] rfl ⟨t6,hF,rfl,rfl⟩
    ·replace hF:=W.ite_f hb10 hF
     refine At.skip ?_
     refine At.n ?_
     refine At.vl (At.region (At.d R R R R (jk (ja R) (ji _ _) vf) ?_))
     refine At.d R R R R (jb (x:=(.tv (kInt .i64) (w64 (t6+(1:Int))))) (ja R)) ?_
     refine At.done (At.vl ?_)
     refine At.w [] R [(0,(.tv (kSlice kStr) s1)),(1,(.tv kStr v1)),(7,(.tv (kInt .i64) (s1.length:Int))),(8,(.tv (kInt .i64) (w64 (t6+(1:Int)))))] ⟨R,R,R,R,trivial⟩ (At.r ⟨(w64 (t6+(1:Int))),hF,R,R⟩)
   ·replace hF:=W.ite_f hb9 hF
    refine At.exit ?_
    refine At.x (At.x ?_)
    refine At.h ?_
    refine At.vl ?_
    refine At.w [] R [] trivial (At.r ⟨(),hF,R,R⟩)
 ·rintro _ _ ⟨_,hF,rfl,rfl⟩
  unfold Jn.c1 at hF
  refine At.seq (At.region (At.d R R R R (jd (x:=(.tv (kInt .i64) (-1:Int))) (ji _ _)) ?_))
  refine At.done (At.vl (At.ret ?_))
  exact At.j rfl (rv_tmp rfl) [] rfl ⟨(-1:Int),hF,rfl,rfl⟩
def Jm.F (s1:(List BA)) (v1:BA):W Bool:=W.bind (Jn.F s1 v1) (fun r1=>W.ret (decide ((0:Int)≤r1)))
theorem Jm.ok {s1:(List BA)} {v1:BA} {Q:Bool→Prop} (hF:Jm.F s1 v1 Q):Con Tryz.prog 36 [.tv (kSlice kStr) s1,.tv kStr v1] [] (fun ta rs'=>∃ (r:Bool),Q r∧ta=.tv kBool r∧rs'=[]):=by
 refine Con.i Tryz.func36 Tryz.ntmps36 R R (fun C=>?_)
 unfold Jm.F at hF
 refine At.seq (At.region (At.d R R R R (jd (x:=(.tv kBool false)) (jl _)) ?_))
 refine At.done (At.vl (At.seq (At.region (At.d R R R R (jb (x:=(.tv (kSlice kStr) s1)) (ja R)) ?_))))
 refine At.d R R R R (jb (x:=(.tv kStr v1)) (ja R)) ?_
 replace hF:=W.vq hF
 refine At.f R (jn R R jp (jq R en_69 (jf (ja R) (jf (ja R) jg))) (Jn.ok hF) (by rintro _ _ ⟨r,_,rfl,_⟩;exact flat_int)) ?_
 rintro _ _ ⟨_,_,⟨r1,hF,rfl,rfl⟩,rfl,rfl⟩
 refine At.d R R R R (jk (ja R) (ji _ _) bin_geq) ?_
 refine At.d R R R R (jd (x:=(.tv kBool (decide ((0:Int)≤r1)))) (ja R)) ?_
 refine At.done (At.vl (At.ret ?_))
 exact At.j rfl (rv_tmp rfl) [] rfl ⟨(decide ((0:Int)≤r1)),hF,rfl,rfl⟩
def ye.F (x1:BA):W Bool:=W.ret (!(sEq x1 x1))
theorem ye.ok {x1:BA} {Q:Bool→Prop} (hF:ye.F x1 Q):Con Tryz.prog 122 [.tv kStr x1] [] (fun ta rs'=>∃ (r:Bool),Q r∧ta=.tv kBool r∧rs'=[]):=by
 refine Con.i Tryz.func122 Tryz.ntmps122 R R (fun C=>?_)
 unfold ye.F at hF
 refine At.seq (At.region (At.d R R R R (jd (x:=(.tv kBool false)) (jl _)) ?_))
 refine At.done (At.vl (At.seq (At.region (At.d R R R R (jb (x:=(.tv kStr x1)) (ja R)) ?_))))
 refine At.d R R R R (jb (x:=(.tv kStr x1)) (ja R)) ?_
 refine At.d R R R R (jk (ja R) (ja R) bin_sneq) ?_
 refine At.d R R R R (jd (x:=(.tv kBool (!(sEq x1 x1)))) (ja R)) ?_
 refine At.done (At.vl (At.ret ?_))
 exact At.j rfl (rv_tmp rfl) [] rfl ⟨(!(sEq x1 x1)),hF,rfl,rfl⟩
def wb.F (x1:BA) (y1:BA):W Int:=W.bind (ye.F x1) (fun r1=>W.bind (ye.F y1) (fun r2=>W.ite r1 (W.ite r2 (W.ret (0:Int)) (W.ret (-1:Int))) (W.ite r2 (W.ret (1:Int)) (W.ite (sLt x1 y1) (W.ret (-1:Int)) (W.ite (!(sLt x1 y1||sEq x1 y1)) (W.ret (1:Int)) (W.ret (0:Int)))))))
theorem wb.ok {x1:BA} {y1:BA} {Q:Int→Prop} (hF:wb.F x1 y1 Q):Con Tryz.prog 73 [.tv kStr x1,.tv kStr y1] [] (fun ta rs'=>∃ (r:Int),Q r∧ta=.tv (kInt .i64) r∧rs'=[]):=by
 refine Con.i Tryz.func73 Tryz.ntmps73 R R (fun C=>?_)
 unfold wb.F at hF
 refine At.seq (At.region (At.d R R R R (jd (x:=(.tv (kInt .i64) (0:Int))) (ji _ _)) ?_))
 refine At.done (At.vl (At.seq (At.region (At.d R R R R (jb (x:=(.tv kStr x1)) (ja R)) ?_))))
 replace hF:=W.vq hF
 refine At.f R (jn R R jp (jq R en_122 (jf (ja R) jg)) (ye.ok hF) (by rintro _ _ ⟨r,_,rfl,_⟩;exact vp)) ?_
 rintro _ _ ⟨_,_,⟨r1,hF,rfl,rfl⟩,rfl,rfl⟩
 refine At.d R R R R (jd (x:=(.tv kBool r1)) (ja R)) ?_
 refine At.done (At.vl (At.seq (At.region (At.d R R R R (jb (x:=(.tv kStr y1)) (ja R)) ?_))))
 replace hF:=W.vq hF
 refine At.f R (jn R R jp (jq R en_122 (jf (ja R) jg)) (ye.ok hF) (by rintro _ _ ⟨r,_,rfl,_⟩;exact vp)) ?_
 rintro _ _ ⟨_,_,⟨r2,hF,rfl,rfl⟩,rfl,rfl⟩
 refine At.d R R R R (jd (x:=(.tv kBool r2)) (ja R)) ?_
 refine At.done (At.vl (At.seq (At.seq (At.region (At.d R R R R (jb (x:=(.tv kBool r1)) (ja R)) ?_)))))
 refine At.done (At.vl ?_)
 refine At.cond (ja R) (fun hb1=>?_) (fun hb1=>?_)
 ·replace hF:=W.ite_t hb1 hF
  refine At.seq (At.seq (At.region (At.d R R R R (jb (x:=(.tv kBool r2)) (ja R)) ?_)))
  refine At.done (At.vl ?_)
  refine At.cond (ja R) (fun hb2=>?_) (fun hb2=>?_)
  ·replace hF:=W.ite_t hb2 hF
   refine At.seq (At.region (At.d R R R R (jd (x:=(.tv (kInt .i64) (0:Int))) (ji _ _)) ?_))
   refine At.done (At.vl (At.ret (At.vm (At.vm ?_))))
   exact At.j rfl (rv_tmp rfl) [] rfl ⟨(0:Int),hF,rfl,rfl⟩
  ·replace hF:=W.ite_f hb2 hF
   refine At.skip (At.vl (At.seq (At.region (At.d R R R R (jd (x:=(.tv (kInt .i64) (-1:Int))) (ji _ _)) ?_))))
   refine At.done (At.vl (At.ret (At.vm ?_)))
   exact At.j rfl (rv_tmp rfl) [] rfl ⟨(-1:Int),hF,rfl,rfl⟩
 ·replace hF:=W.ite_f hb1 hF
  refine At.skip (At.vl (At.seq (At.seq (At.region (At.d R R R R (jb (x:=(.tv kBool r2)) (ja R)) ?_)))))
  refine At.done (At.vl ?_)
  refine At.cond (ja R) (fun hb3=>?_) (fun hb3=>?_)
  ·replace hF:=W.ite_t hb3 hF
   refine At.seq (At.region (At.d R R R R (jd (x:=(.tv (kInt .i64) (1:Int))) (ji _ _)) ?_))
   refine At.done (At.vl (At.ret (At.vm ?_)))
   exact At.j rfl (rv_tmp rfl) [] rfl ⟨(1:Int),hF,rfl,rfl⟩
  ·replace hF:=W.ite_f hb3 hF
   refine At.skip (At.vl (At.seq (At.seq (At.region (At.d R R R R (jb (x:=(.tv kStr x1)) (ja R)) ?_)))))
   refine At.d R R R R (jb (x:=(.tv kStr y1)) (ja R)) ?_
   refine At.d R R R R (jk (ja R) (ja R) bin_slss) ?_
   refine At.done (At.vl ?_)
   refine At.cond (ja R) (fun hb4=>?_) (fun hb4=>?_)
   ·replace hF:=W.ite_t hb4 hF
    refine At.seq (At.region (At.d R R R R (jd (x:=(.tv (kInt .i64) (-1:Int))) (ji _ _)) ?_))
    refine At.done (At.vl (At.ret (At.vm ?_)))
    exact At.j rfl (rv_tmp rfl) [] rfl ⟨(-1:Int),hF,rfl,rfl⟩
   ·replace hF:=W.ite_f hb4 hF
    refine At.skip (At.vl (At.seq (At.seq (At.region (At.d R R R R (jb (x:=(.tv kStr x1)) (ja R)) ?_)))))
    refine At.d R R R R (jb (x:=(.tv kStr y1)) (ja R)) ?_
    refine At.d R R R R (jk (ja R) (ja R) bin_sgtr) ?_
    refine At.done (At.vl ?_)
    refine At.cond (ja R) (fun hb5=>?_) (fun hb5=>?_)
    ·replace hF:=W.ite_t hb5 hF
     refine At.seq (At.region (At.d R R R R (jd (x:=(.tv (kInt .i64) (1:Int))) (ji _ _)) ?_))
     refine At.done (At.vl (At.ret (At.vm ?_)))
     exact At.j rfl (rv_tmp rfl) [] rfl ⟨(1:Int),hF,rfl,rfl⟩
    ·replace hF:=W.ite_f hb5 hF
     refine At.skip (At.vl (At.seq (At.region (At.d R R R R (jd (x:=(.tv (kInt .i64) (0:Int))) (ji _ _)) ?_))))
     refine At.done (At.vl (At.ret ?_))
     exact At.j rfl (rv_tmp rfl) [] rfl ⟨(0:Int),hF,rfl,rfl⟩
def Vh.c1:W Int:=W.ret (0:Int)
def Vh.l1 (l1:(List BA)) (K1:W Int) (A1:Int→W Int) (i6:Int):W Int:=W.ite (decide ((w64 (i6+(1:Int)))<(l1.length:Int))) (W.req (0≤i6∧i6<(l1.length:Int)) (W.req (0≤(w64 (i6+(1:Int)))∧(w64 (i6+(1:Int)))<(l1.length:Int)) (W.bind (wb.F (rd (⟨#[]⟩:BA) l1 i6) (rd (⟨#[]⟩:BA) l1 (w64 (i6+(1:Int))))) (fun r5=>W.ite (r5 != (0:Int)) (W.ret r5) (A1 (w64 (i6+(2:Int)))))))) (K1)
def Vh.F (l1:(List BA)):W Int:=W.ex fun n=>W.iter1 (Vh.l1 l1 (Vh.c1)) n (0:Int)
theorem Vh.ok {l1:(List BA)} {Q:Int→Prop} (hF:Vh.F l1 Q):Con Tryz.prog 68 [.tv (kSlice kStr) l1] [] (fun ta rs'=>∃ (r:Int),Q r∧ta=.tv (kInt .i64) r∧rs'=[]):=by
 refine Con.i Tryz.func68 Tryz.ntmps68 R R (fun C=>?_)
 unfold Vh.F at hF
 refine At.seq (At.region (At.d R R R R (jd (x:=(.tv (kInt .i64) (0:Int))) (ji _ _)) ?_))
 refine At.done (At.vl ?_)
 refine At.cut (fun rs L=>∃ _:Unit,Vh.c1 Q∧rs=[]∧L=mkL []) ?_ ?_
 ·refine At.seq (At.region (At.d R R R R (jd (x:=(.tv (kInt .i64) (0:Int))) (ji _ _)) ?_))
  refine At.done (At.vl (At.block ?_))
  obtain ⟨n1,hF⟩:=hF
  refine At.w [] R [(0,(.tv (kSlice kStr) l1)),(3,(.tv (kInt .i64) (0:Int)))] ⟨R,R,trivial⟩ ?_
  refine At.loop (fun m rs L=>∃ (i6:Int),W.iter1 (Vh.l1 l1 (Vh.c1)) m i6 Q∧rs=[]∧L=mkL [(0,(.tv (kSlice kStr) l1)),(3,(.tv (kInt .i64) i6))]) ?_ ?_ (m:=n1) ⟨(0:Int),hF,R,R⟩
  ·rintro rs L ⟨_,hF,_,_⟩;exact hF
  ·rintro m1 _ _ ⟨i6,hF,rfl,rfl⟩
   replace hF:=W.iter1_s hF
   unfold Vh.l1 at hF
   refine At.seq (At.seq (At.region (At.d R R R R (jb (x:=(.tv (kInt .i64) i6)) (ja R)) ?_)))
   refine At.d R R R R (jk (ja R) (ji _ _) vf) ?_
   refine At.d R R R R (jb (x:=(.tv (kSlice kStr) l1)) (ja R)) ?_
   refine At.d R R R R (jt (ja R) Tryz.underlying41) ?_
   refine At.d R R R R (jk (ja R) (ja R) vg) ?_
   refine At.done (At.vl ?_)
   refine At.cond (ja R) (fun hb9=>?_) (fun hb9=>?_)
   ·replace hF:=W.ite_t hb9 hF
    refine At.skip (At.vl (At.seq (At.block (At.seq ?_))))
    refine At.draw mixed [] R [] (fun φ w hgd=>?_)
    obtain ⟨hq9,hF⟩:=hF
    obtain ⟨hq10,hF⟩:=hF
    replace hF:=W.vq hF
    refine AtH.take [] hgd 0 R R R R (D':=#[Y,N,N,N,N,N,N,N,N,N,N]) (by kernel_rfl) (fun _ _ _ _ h=>h) R (jb (x:=(.tv (kSlice kStr) l1)) (ja R)) ?_
    refine AtH.take [] hgd 1 R R R R (D':=#[Y,Y,N,N,N,N,N,N,N,N,N]) (by kernel_rfl) (fun _ _ _ _ h=>h) R (jb (x:=(.tv (kInt .i64) i6)) (ja R)) ?_
    refine AtH.take [] hgd 2 R R R R (D':=#[Y,Y,Y,N,N,N,N,N,N,N,N]) (by kernel_rfl) (fun _ _ _ _ h=>h) R (vj (⟨#[]⟩:BA) (ja R) (ja R) Tryz.underlying41 ty_9 hq9) ?_
    refine AtH.take [] hgd 3 R R R R (D':=#[Y,Y,Y,Y,N,N,N,N,N,N,N]) (by kernel_rfl) (fun _ _ _ _ h=>h) R (vw (K:=kStr) (ja R) ty_9) ?_
    refine AtH.take [] hgd 4 R R R R (D':=#[Y,Y,Y,Y,Y,N,N,N,N,N,N]) (by kernel_rfl) (fun _ _ _ _ h=>h) R (jb (x:=(.tv (kSlice kStr) l1)) (ja R)) ?_
    refine AtH.take [] hgd 5 R R R R (D':=#[Y,Y,Y,Y,Y,Y,N,N,N,N,N]) (by kernel_rfl) (fun _ _ _ _ h=>h) R (jb (x:=(.tv (kInt .i64) i6)) (ja R)) ?_
    refine AtH.take [] hgd 6 R R R R (D':=#[Y,Y,Y,Y,Y,Y,Y,N,N,N,N]) (by kernel_rfl) (fun _ _ _ _ h=>h) R (jk (ja R) (ji _ _) vf) ?_
    refine AtH.take [] hgd 7 R R R R (D':=#[Y,Y,Y,Y,Y,Y,Y,Y,N,N,N]) (by kernel_rfl) (fun _ _ _ _ h=>h) R (vj (⟨#[]⟩:BA) (ja R) (ja R) Tryz.underlying41 ty_9 hq10) ?_
    refine AtH.take [] hgd 8 R R R R (D':=#[Y,Y,Y,Y,Y,Y,Y,Y,Y,N,N]) (by kernel_rfl) (fun _ _ _ _ h=>h) R (vw (K:=kStr) (ja R) ty_9) ?_
    refine AtH.all1 9 (by kernel_rfl) ?_
    refine AtH.f [] R R R R R R (jn R R jp (jq R en_73 (jf (ja R) (jf (ja R) jg))) (wb.ok hF) (by rintro _ _ ⟨r,_,rfl,_⟩;exact flat_int)) (D':=#[Y,Y,Y,Y,Y,Y,Y,Y,Y,Y,N]) (by kernel_rfl) (by kernel_rfl) ?_
    rintro _ _ ⟨_,_,⟨r5,hF,rfl,rfl⟩,rfl,rfl⟩
    refine ⟨_,.inr ⟨R,flat_int⟩,?_⟩
    refine AtH.take [] hgd 10 R R R R (D':=#[Y,Y,Y,Y,Y,Y,Y,Y,Y,Y,Y]) (by kernel_rfl) (fun _ _ _ _ h=>h) R (jd (x:=(.tv (kInt .i64) r5)) (ja R)) ?_
    refine AtH.done (by kernel_rfl) ?_
    refine At.vl (At.seq (At.region (At.d R R R R (jb (x:=(.tv (kInt .i64) r5)) (ja R)) ?_)))
    refine At.d R R R R (jk (ja R) (ji _ _) bin_neq) ?_
    refine At.done (At.vl ?_)
    refine At.cond (ja R) (fun hb10=>?_) (fun hb10=>?_)
    ·replace hF:=W.ite_t hb10 hF
     refine At.seq (At.region (At.d R R R R (jb (x:=(.tv (kInt .i64) r5)) (ja R)) ?_))
     refine At.d R R R R (jd (x:=(.tv (kInt .i64) r5)) (ja R)) ?_
     refine At.done (At.vl (At.ret ?_))
     refine At.q ?_
     refine At.vm (At.vm ?_)
     refine At.q ?_
     refine At.vm ?_
     exact At.j rfl (rv_tmp rfl) [] rfl ⟨r5,hF,rfl,rfl⟩
    ·replace hF:=W.ite_f hb10 hF
     refine At.skip ?_
     refine At.n ?_
     refine At.vl (At.region (At.d R R R R (jb (x:=(.tv (kInt .i64) i6)) (ja R)) ?_))
     refine At.d R R R R (jk (ja R) (ji _ _) vf) ?_
     refine At.d R R R R (jd (x:=(.tv (kInt .i64) (w64 (i6+(2:Int))))) (ja R)) ?_
     refine At.done (At.vl ?_)
     refine At.w [] R [(0,(.tv (kSlice kStr) l1)),(3,(.tv (kInt .i64) (w64 (i6+(2:Int)))))] ⟨R,R,trivial⟩ (At.r ⟨(w64 (i6+(2:Int))),hF,R,R⟩)
   ·replace hF:=W.ite_f hb9 hF
    refine At.exit ?_
    refine At.x (At.x ?_)
    refine At.h ?_
    refine At.vl ?_
    refine At.w [] R [] trivial (At.r ⟨(),hF,R,R⟩)
 ·rintro _ _ ⟨_,hF,rfl,rfl⟩
  unfold Vh.c1 at hF
  refine At.seq (At.region (At.d R R R R (jd (x:=(.tv (kInt .i64) (0:Int))) (ji _ _)) ?_))
  refine At.done (At.vl (At.ret ?_))
  exact At.j rfl (rv_tmp rfl) [] rfl ⟨(0:Int),hF,rfl,rfl⟩
def wk.F (a1:Jv) (b1:Jv):W Int:=W.bind (Vh.F ([a1.nodes.1,b1.nodes.1,a1.nodes.2,b1.nodes.2]:List BA)) (fun r1=>W.ret r1)
theorem wk.ok {a1:Jv} {b1:Jv} {Q:Int→Prop} (hF:wk.F a1 b1 Q):Con Tryz.prog 67 [.tv Ju a1,.tv Ju b1] [] (fun ta rs'=>∃ (r:Int),Q r∧ta=.tv (kInt .i64) r∧rs'=[]):=by
 refine Con.i Tryz.func67 Tryz.ntmps67 R R (fun C=>?_)
 unfold wk.F at hF
 refine At.seq (At.region (At.f R (jy R R R (ja R)) ?_))
 rintro _ _ ⟨g1,rfl,rfl⟩
 refine At.f R (jy R R R (ja R)) ?_
 rintro _ _ ⟨g2,rfl,rfl⟩
 refine At.d R R R R (jd (x:=(.tv (kInt .i64) (0:Int))) (ji _ _)) ?_
 refine At.done (At.vl (At.seq (At.region (At.d R R R R (je (ja R) zu) ?_))))
 refine At.d R R R R (does_aidx_box (ja R) (ji _ _) jb2) ?_
 refine At.d R R R R (jc (ja R) 1 R zh ty_9) ?_
 refine At.d R R R R (je (ja R) zu) ?_
 refine At.d R R R R (does_aidx_box (ja R) (ji _ _) jb2) ?_
 refine At.d R R R R (jc (ja R) 0 R zh ty_9) ?_
 refine At.d R R R R (je (ja R) zu) ?_
 refine At.d R R R R (does_aidx_box (ja R) (ji _ _) ia_50_1) ?_
 refine At.d R R R R (jc (ja R) 1 R ze ty_9) ?_
 refine At.d R R R R (je (ja R) zu) ?_
 refine At.d R R R R (does_aidx_box (ja R) (ji _ _) ia_50_1) ?_
 refine At.d R R R R (jc (ja R) 0 R ze ty_9) ?_
 refine At.f R (vc R R R (os:=[.tmp 7,.tmp 10,.tmp 13,.tmp 16]) R sl_41 (xs:=([a1.nodes.1,b1.nodes.1,a1.nodes.2,b1.nodes.2]:List BA)) (jf (ja R) (jf (ja R) (jf (ja R) (jf (ja R) jg)))) R R) ?_
 rintro _ _ ⟨v1,rfl,rfl⟩
 replace hF:=W.vq hF
 refine At.f R (jn R R (lends_row 0 17 R R jp) (jq R en_68 (jf (ja R) jg)) (Vh.ok hF) (by rintro _ _ ⟨r,_,rfl,_⟩;exact flat_int)) ?_
 rintro _ _ ⟨_,_,⟨r1,hF,rfl,rfl⟩,rfl,rfl⟩
 refine At.d R R R R (jd (x:=(.tv (kInt .i64) r1)) (ja R)) ?_
 refine At.done (At.vl (At.ret ?_))
 exact At.j rfl (rv_tmp rfl) [] rfl ⟨r1,hF,rfl,rfl⟩
def Vm.F (x:(List Jv)):W (List Jv):=W.sort (fun a b=>wk.F a b) x W.ret
theorem Vm.ok {x:(List Jv)} {u:Value} {Q:(List Jv)→Prop} (hF:Vm.F x Q):Con Tryz.prog 66 [.eq u,.cls 67 0 (tupl [])] [.row u 82 Ju x] (fun ta rs'=>∃ (r:(List Jv)),Q r∧ta=.eq (.tuple #[])∧rs'=[.row u 82 Ju r]):=by
 obtain ⟨hl,cf,hO,hc,hk⟩:=hF
 exact (con_sortFunc Tryz.sort66 rfl rfl ty_82 en_67 (fun a b ha hb=>(wk.ok (hc a b ha hb)).mono (by rintro ta rs' ⟨r,rfl,rfl,rfl⟩;rfl)) hO hl).mono (by rintro ta rs' ⟨ys,hp,hs,rfl,rfl⟩;exact ⟨ys,hk ys hp hs,rfl,rfl⟩)
def Jd.c2 (x19:(List Jv)):W (List Jv):=W.bind (Vm.F x19) (fun r7=>W.ret r7)
def Jd.l1 (K2:(List Jv)→W (List Jv)) (A1:(List Jv)→(List ((BA×BA)×(List BA)))→W (List Jv)) (x24:(List Jv)) (x25:(List ((BA×BA)×(List BA)))):W (List Jv):=W.next x25 (((⟨#[]⟩:BA),(⟨#[]⟩:BA)),([]:List BA)) (fun b11 e11 l5=>W.ite b11 (W.req (b11=true) (W.req ((x24.length+([(⟨e11.1,e11.2⟩:Jv)]:List Jv).length)*56≤140737488355328∧x24.length+([(⟨e11.1,e11.2⟩:Jv)]:List Jv).length≤140737488355328) (A1 (x24++([(⟨e11.1,e11.2⟩:Jv)]:List Jv)) l5))) (K2 x24))
def Jd.c1 (x12:(List ((BA×BA)×(List BA)))):W (List Jv):=W.req (0≤(x12.length:Int)∧(x12.length:Int)*56≤140737488355328∧(x12.length:Int)≤140737488355328) (W.ex fun n=>W.iter2 (Jd.l1 (Jd.c2)) n ([]:List Jv) x12)
def Jd.c3 (t18:Int) (A2:(List ((BA×BA)×(List BA)))→Int→W (List Jv)) (x40:(List ((BA×BA)×(List BA)))):W (List Jv):=A2 x40 (w64 (t18+(1:Int)))
def Jd.l3 (p1:Va) (t18:Int) (K3:(List ((BA×BA)×(List BA)))→W (List Jv)) (A3:(List ((BA×BA)×(List BA)))→Int→W (List Jv)) (x43:(List ((BA×BA)×(List BA)))) (t24:Int):W (List Jv):=W.ite (decide (t24<(((rd zObject p1.m.Objects t18).Refs).length:Int))) (W.req (0≤t24∧t24<(((rd zObject p1.m.Objects t18).Refs).length:Int)) (W.ite (((w64 (t24+(1:Int)))==(((rd zObject p1.m.Objects t18).Refs).length:Int))&&(((rd zObject p1.m.Objects t18).Kind)==(2:Int))) (K3 x43) (W.req ((((rd zObject p1.m.Objects t18).Refs).length:Int)≠0) (W.req (0≤(Int.tmod (w64 (t24+(1:Int))) (((rd zObject p1.m.Objects t18).Refs).length:Int))∧(Int.tmod (w64 (t24+(1:Int))) (((rd zObject p1.m.Objects t18).Refs).length:Int))<(((rd zObject p1.m.Objects t18).Refs).length:Int)) (W.bind (Jm.F (mget ((sMin (rd (⟨#[]⟩:BA) ((rd zObject p1.m.Objects t18).Refs) t24) (rd (⟨#[]⟩:BA) ((rd zObject p1.m.Objects t18).Refs) (Int.tmod (w64 (t24+(1:Int))) (((rd zObject p1.m.Objects t18).Refs).length:Int)))),(sMax (rd (⟨#[]⟩:BA) ((rd zObject p1.m.Objects t18).Refs) t24) (rd (⟨#[]⟩:BA) ((rd zObject p1.m.Objects t18).Refs) (Int.tmod (w64 (t24+(1:Int))) (((rd zObject p1.m.Objects t18).Refs).length:Int))))) ([]:List BA) x43) ((rd zObject p1.m.Objects t18).Id)) (fun r20=>W.ite (!r20) (W.req (((mget ((sMin (rd (⟨#[]⟩:BA) ((rd zObject p1.m.Objects t18).Refs) t24) (rd (⟨#[]⟩:BA) ((rd zObject p1.m.Objects t18).Refs) (Int.tmod (w64 (t24+(1:Int))) (((rd zObject p1.m.Objects t18).Refs).length:Int)))),(sMax (rd (⟨#[]⟩:BA) ((rd zObject p1.m.Objects t18).Refs) t24) (rd (⟨#[]⟩:BA) ((rd zObject p1.m.Objects t18).Refs) (Int.tmod (w64 (t24+(1:Int))) (((rd zObject p1.m.Objects t18).Refs).length:Int))))) ([]:List BA) x43).length+([(rd zObject p1.m.Objects t18).Id]:List BA).length)*16≤140737488355328∧(mget ((sMin (rd (⟨#[]⟩:BA) ((rd zObject p1.m.Objects t18).Refs) t24) (rd (⟨#[]⟩:BA) ((rd zObject p1.m.Objects t18).Refs) (Int.tmod (w64 (t24+(1:Int))) (((rd zObject p1.m.Objects t18).Refs).length:Int)))),(sMax (rd (⟨#[]⟩:BA) ((rd zObject p1.m.Objects t18).Refs) t24) (rd (⟨#[]⟩:BA) ((rd zObject p1.m.Objects t18).Refs) (Int.tmod (w64 (t24+(1:Int))) (((rd zObject p1.m.Objects t18).Refs).length:Int))))) ([]:List BA) x43).length+([(rd zObject p1.m.Objects t18).Id]:List BA).length≤140737488355328) (A3 (mset ((sMin (rd (⟨#[]⟩:BA) ((rd zObject p1.m.Objects t18).Refs) t24) (rd (⟨#[]⟩:BA) ((rd zObject p1.m.Objects t18).Refs) (Int.tmod (w64 (t24+(1:Int))) (((rd zObject p1.m.Objects t18).Refs).length:Int)))),(sMax (rd (⟨#[]⟩:BA) ((rd zObject p1.m.Objects t18).Refs) t24) (rd (⟨#[]⟩:BA) ((rd zObject p1.m.Objects t18).Refs) (Int.tmod (w64 (t24+(1:Int))) (((rd zObject p1.m.Objects t18).Refs).length:Int))))) ((mget ((sMin (rd (⟨#[]⟩:BA) ((rd zObject p1.m.Objects t18).Refs) t24) (rd (⟨#[]⟩:BA) ((rd zObject p1.m.Objects t18).Refs) (Int.tmod (w64 (t24+(1:Int))) (((rd zObject p1.m.Objects t18).Refs).length:Int)))),(sMax (rd (⟨#[]⟩:BA) ((rd zObject p1.m.Objects t18).Refs) t24) (rd (⟨#[]⟩:BA) ((rd zObject p1.m.Objects t18).Refs) (Int.tmod (w64 (t24+(1:Int))) (((rd zObject p1.m.Objects t18).Refs).length:Int))))) ([]:List BA) x43)++([(rd zObject p1.m.Objects t18).Id]:List BA)) x43) (w64 (t24+(1:Int))))) (A3 x43 (w64 (t24+(1:Int)))))))))) (K3 x43)
def Jd.l2 (p1:Va) (K1:(List ((BA×BA)×(List BA)))→W (List Jv)) (A2:(List ((BA×BA)×(List BA)))→Int→W (List Jv)) (x36:(List ((BA×BA)×(List BA)))) (t18:Int):W (List Jv):=W.ite (decide (t18<(p1.m.Objects.length:Int))) (W.req (0≤t18∧t18<(p1.m.Objects.length:Int)) (W.bind (W.ite (!((((rd zObject p1.m.Objects t18).Kind) != (2:Int))&&(((rd zObject p1.m.Objects t18).Kind) != (3:Int)))) (wh.F p1 (rd zObject p1.m.Objects t18)) (W.ret false)) (fun r17=>W.ite (((((rd zObject p1.m.Objects t18).Kind) != (2:Int))&&(((rd zObject p1.m.Objects t18).Kind) != (3:Int)))||(!r17)) ((Jd.c3 t18 A2) x36) (W.ex fun n=>W.iter2 (Jd.l3 p1 t18 (Jd.c3 t18 A2)) n x36 (0:Int))))) (K1 x36)
def Jd.F (p1:Va):W (List Jv):=W.ex fun n=>W.iter2 (Jd.l2 p1 (Jd.c1)) n ([]:(List ((BA×BA)×(List BA)))) (0:Int)
theorem Jd.ok {p1:Va} {Q:(List Jv)→Prop} (hF:Jd.F p1 Q):Con Tryz.prog 31 [.tv Jy p1] [] (fun ta rs'=>∃ (r:(List Jv)) (u0:Value),Q r∧ta=.eq u0∧rs'=[.row u0 82 Ju r]):=by
 refine Con.i Tryz.func31 Tryz.ntmps31 R R (fun C=>?_)
 unfold Jd.F at hF
 refine At.seq (At.region (At.f R (jy R R R (ja R)) ?_))
 rintro _ _ ⟨g1,rfl,rfl⟩
 refine At.d R R R R (jd (x:=(.eq (.slice none 0 0))) (opd_eq _)) ?_
 refine At.done (At.vl (At.seq (At.region (At.f R (eff_makeMapR R R R (kPair kStr kStr) 9 kStr) ?_))))
 rintro _ _ ⟨g2,rfl,rfl⟩
 refine At.d R R R R (jd (x:=(.eq (.map (some g2)))) (ja R)) ?_
 refine At.done (At.vl ?_)
 refine At.cut (fun rs L=>∃ (x12:(List ((BA×BA)×(List BA)))) (w20:List Value),Jd.c1 x12 Q∧rs=[.mrow g2 (kPair kStr kStr) 9 kStr w20 x12]∧L=mkL [(3,(.eq (.map (some g2))))]) ?_ ?_
 ·refine At.seq (At.region (At.d R R R R (je (ja R) fa_76_0) ?_))
  refine At.d R R R R (je (ja R) qq) ?_
  refine At.d R R R R (jc (ja R) 1 R sub_border_parcel_0_0 ty_22) ?_
  refine At.d R R R R (jt (ja R) Tryz.underlying22) ?_
  refine At.d R R R R (jb (x:=(.tv (kInt .i64) (0:Int))) (ji _ _)) ?_
  refine At.done (At.vl (At.block ?_))
  obtain ⟨n3,hF⟩:=hF
  refine At.w [1,0] R [(1,(.eq (.pointer (some ⟨g1,0,none⟩)))),(3,(.eq (.map (some g2)))),(17,(.tv (kSlice kObject) p1.m.Objects)),(18,(.tv (kInt .i64) (p1.m.Objects.length:Int))),(19,(.tv (kInt .i64) (0:Int)))] ⟨R,R,R,R,R,trivial⟩ ?_
  refine At.loop (fun m rs L=>∃ (x36:(List ((BA×BA)×(List BA)))) (w39:List Value) (t18:Int),W.iter2 (Jd.l2 p1 (Jd.c1)) m x36 t18 Q∧rs=[.box g1 76 Jy p1,.mrow g2 (kPair kStr kStr) 9 kStr w39 x36]∧L=mkL [(1,(.eq (.pointer (some ⟨g1,0,none⟩)))),(3,(.eq (.map (some g2)))),(17,(.tv (kSlice kObject) p1.m.Objects)),(18,(.tv (kInt .i64) (p1.m.Objects.length:Int))),(19,(.tv (kInt .i64) t18))]) ?_ ?_ (m:=n3) ⟨([]:(List ((BA×BA)×(List BA)))),[],(0:Int),hF,R,R⟩
  ·rintro rs L ⟨_,_,_,hF,_,_⟩;exact hF
  ·rintro m2 _ _ ⟨x36,w39,t18,hF,rfl,rfl⟩
   replace hF:=W.iter2_s hF
   unfold Jd.l2 at hF
   refine At.seq (At.region (At.d R R R R (jk (ja R) (ja R) vg) ?_))
   refine At.done (At.vl (At.seq ?_))
   refine At.cond (ja R) (fun hb38=>?_) (fun hb38=>?_)
   ·replace hF:=W.ite_t hb38 hF
    refine At.skip (At.vl ?_)
    refine At.cut (fun rs L=>∃ (x40:(List ((BA×BA)×(List BA)))) (w47:List Value),Jd.c3 t18 (W.iter2 (Jd.l2 p1 (Jd.c1)) m2) x40 Q∧rs=[.box g1 76 Jy p1,.mrow g2 (kPair kStr kStr) 9 kStr w47 x40]∧L=mkL [(1,(.eq (.pointer (some ⟨g1,0,none⟩)))),(3,(.eq (.map (some g2)))),(17,(.tv (kSlice kObject) p1.m.Objects)),(18,(.tv (kInt .i64) (p1.m.Objects.length:Int))),(19,(.tv (kInt .i64) t18))]) ?_ ?_
    ·refine At.block (At.seq (At.region ?_))
     obtain ⟨hq57,hF⟩:=hF
     refine At.d R R R R (vj zObject (ja R) (ja R) Tryz.underlying22 ty_59 hq57) ?_
     refine At.d R R R R (vw (K:=kObject) (ja R) ty_59) ?_
     refine At.f R (eff_alloc R R R tz_59) ?_
     rintro _ _ ⟨g25,rfl,rfl⟩
     refine At.f R (jz R R (ja R) 0 R (Sub.self kObject) ty_59 (ja R)) ?_
     rintro _ _ ⟨rfl,rfl⟩
     refine At.done (At.vl (At.seq (At.seq (At.region (At.d R R R R (je (ja R) yj) ?_)))))
     refine At.d R R R R (jc (ja R) 0 R qa ty_3) ?_
     refine At.d R R R R (jk (ja R) (ji _ _) bin_neq) ?_
     refine At.d R R R R (jb (x:=(.tv kBool (((rd zObject p1.m.Objects t18).Kind) != (2:Int)))) (ja R)) ?_
     refine At.vn R R R R (jw R) R (fun hg66=>(je (ja R) yj)) ?_
     refine At.vn R R R R (jw R) R (fun hg67=>(jc (jh R hg67) 0 R qa ty_3)) ?_
     refine At.vn R R R R (jw R) R (fun hg68=>(jk (jh R hg68) (ji _ _) bin_neq)) ?_
     refine At.d R R R R (jm (ja R) (ja R) (jl _) vh) ?_
     refine At.d R R R R (jb (x:=(.tv kBool ((((rd zObject p1.m.Objects t18).Kind) != (2:Int))&&(((rd zObject p1.m.Objects t18).Kind) != (3:Int))))) (ja R)) ?_
     refine At.vn R R R R (jx R) R (fun hg69=>(jc (ja R) 1 R (Sub.self Jy) ty_76)) ?_
     refine At.vn R R R R (jx R) R (fun hg70=>(jc (ja R) 0 R (Sub.self kObject) ty_59)) ?_
     replace hF:=W.vq hF
     refine At.effG R R R R (jx R) hF (fun r=>.tv kBool r) (fun hg71 hF=>vr (jn R R jp (jq R en_65 (jf (jh R hg71) (jf (jh R hg71) jg))) (wh.ok hF) (by rintro _ _ ⟨r,_,rfl,_⟩;exact vp)) (by rintro _ _ ⟨_,_,⟨r,hF,rfl,rfl⟩,rfl,rfl⟩;exact ⟨r,hF,R,R⟩)) (fun r17 hF=>?_)
     refine At.vn R R R R (jx R) R (fun hg72=>(ve (jh R hg72))) ?_
     refine At.d R R R R (jm (ja R) (jl _) (ja R) vi) ?_
     refine At.done (At.vl ?_)
     refine At.cond (ja R) (fun hb46=>?_) (fun hb46=>?_)
     ·replace hF:=W.ite_t hb46 hF
      refine At.exit ?_
      refine At.x ?_
      refine At.h ?_
      refine At.vl ?_
      refine At.w [1,2] R [(1,(.eq (.pointer (some ⟨g1,0,none⟩)))),(3,(.eq (.map (some g2)))),(17,(.tv (kSlice kObject) p1.m.Objects)),(18,(.tv (kInt .i64) (p1.m.Objects.length:Int))),(19,(.tv (kInt .i64) t18))] ⟨R,R,R,R,R,trivial⟩ (At.r ⟨x36,w39,hF,R,R⟩)
     ·replace hF:=W.ite_f hb46 hF
      refine At.skip (At.vl (At.seq (At.region (At.d R R R R (je (ja R) qz) ?_))))
      refine At.d R R R R (jc (ja R) 0 R Vl ty_41) ?_
      refine At.d R R R R (jt (ja R) Tryz.underlying41) ?_
      refine At.d R R R R (jb (x:=(.tv (kInt .i64) (0:Int))) (ji _ _)) ?_
      refine At.done (At.vl (At.block ?_))
      obtain ⟨n2,hF⟩:=hF
      refine At.w [1,2,0] R [(1,(.eq (.pointer (some ⟨g1,0,none⟩)))),(3,(.eq (.map (some g2)))),(5,(.eq (.pointer (some ⟨g25,0,none⟩)))),(17,(.tv (kSlice kObject) p1.m.Objects)),(18,(.tv (kInt .i64) (p1.m.Objects.length:Int))),(19,(.tv (kInt .i64) t18)),(38,(.tv (kSlice kStr) ((rd zObject p1.m.Objects t18).Refs))),(39,(.tv (kInt .i64) (((rd zObject p1.m.Objects t18).Refs).length:Int))),(40,(.tv (kInt .i64) (0:Int)))] ⟨R,R,R,R,R,R,R,R,R,trivial⟩ ?_
      refine At.loop (fun m rs L=>∃ (x43:(List ((BA×BA)×(List BA)))) (w54:List Value) (t24:Int),W.iter2 (Jd.l3 p1 t18 (Jd.c3 t18 (W.iter2 (Jd.l2 p1 (Jd.c1)) m2))) m x43 t24 Q∧rs=[.box g1 76 Jy p1,.mrow g2 (kPair kStr kStr) 9 kStr w54 x43,.box g25 59 kObject (rd zObject p1.m.Objects t18)]∧L=mkL [(1,(.eq (.pointer (some ⟨g1,0,none⟩)))),(3,(.eq (.map (some g2)))),(5,(.eq (.pointer (some ⟨g25,0,none⟩)))),(17,(.tv (kSlice kObject) p1.m.Objects)),(18,(.tv (kInt .i64) (p1.m.Objects.length:Int))),(19,(.tv (kInt .i64) t18)),(38,(.tv (kSlice kStr) ((rd zObject p1.m.Objects t18).Refs))),(39,(.tv (kInt .i64) (((rd zObject p1.m.Objects t18).Refs).length:Int))),(40,(.tv (kInt .i64) t24))]) ?_ ?_ (m:=n2) ⟨x36,w39,(0:Int),hF,R,R⟩
      ·rintro rs L ⟨_,_,_,hF,_,_⟩;exact hF
      ·rintro m3 _ _ ⟨x43,w54,t24,hF,rfl,rfl⟩
       replace hF:=W.iter2_s hF
       unfold Jd.l3 at hF
       refine At.seq (At.region (At.d R R R R (jk (ja R) (ja R) vg) ?_))
       refine At.done (At.vl (At.seq ?_))
       refine At.cond (ja R) (fun hb53=>?_) (fun hb53=>?_)
       ·replace hF:=W.ite_t hb53 hF
        refine At.skip (At.vl (At.seq (At.block (At.seq (At.region (At.d R R R R (jb (x:=(.tv (kInt .i64) t24)) (ja R)) ?_))))))
        obtain ⟨hq66,hF⟩:=hF
        refine At.d R R R R (vj (⟨#[]⟩:BA) (ja R) (ja R) Tryz.underlying41 ty_9 hq66) ?_
        refine At.d R R R R (vw (K:=kStr) (ja R) ty_9) ?_
        refine At.d R R R R (jd (x:=(.tv (kInt .i64) t24)) (ja R)) ?_
        refine At.d R R R R (jd (x:=(.tv kStr (rd (⟨#[]⟩:BA) ((rd zObject p1.m.Objects t18).Refs) t24))) (ja R)) ?_
        refine At.done (At.vl (At.seq (At.region (At.d R R R R (jb (x:=(.tv (kInt .i64) t24)) (ja R)) ?_))))
        refine At.d R R R R (jk (ja R) (ji _ _) vf) ?_
        refine At.d R R R R (jd (x:=(.tv (kInt .i64) (w64 (t24+(1:Int))))) (ja R)) ?_
        refine At.done (At.vl (At.seq (At.seq (At.region (At.d R R R R (jb (x:=(.tv (kInt .i64) (w64 (t24+(1:Int))))) (ja R)) ?_)))))
        refine At.d R R R R (je (ja R) qz) ?_
        refine At.d R R R R (jc (ja R) 2 R Vl ty_41) ?_
        refine At.d R R R R (jt (ja R) Tryz.underlying41) ?_
        refine At.d R R R R (jk (ja R) (ja R) bin_eql) ?_
        refine At.d R R R R (jb (x:=(.tv kBool ((w64 (t24+(1:Int)))==(((rd zObject p1.m.Objects t18).Refs).length:Int)))) (ja R)) ?_
        refine At.vn R R R R (jw R) R (fun hg79=>(je (ja R) yj)) ?_
        refine At.vn R R R R (jw R) R (fun hg80=>(jc (jh R hg80) 2 R qa ty_3)) ?_
        refine At.vn R R R R (jw R) R (fun hg81=>(jk (jh R hg81) (ji _ _) bin_eql)) ?_
        refine At.d R R R R (jm (ja R) (ja R) (jl _) vh) ?_
        refine At.done (At.vl ?_)
        refine At.cond (ja R) (fun hb54=>?_) (fun hb54=>?_)
        ·replace hF:=W.ite_t hb54 hF
         refine At.exit ?_
         refine At.x ?_
         refine At.block_there R ?_
         refine At.x (At.x ?_)
         refine At.h ?_
         refine At.n ?_
         refine At.vl ?_
         refine At.w [0,1] R [(1,(.eq (.pointer (some ⟨g1,0,none⟩)))),(3,(.eq (.map (some g2)))),(17,(.tv (kSlice kObject) p1.m.Objects)),(18,(.tv (kInt .i64) (p1.m.Objects.length:Int))),(19,(.tv (kInt .i64) t18))] ⟨R,R,R,R,R,trivial⟩ (At.r ⟨x43,w54,hF,R,R⟩)
        ·replace hF:=W.ite_f hb54 hF
         refine At.skip (At.vl (At.seq ?_))
         refine At.draw mixed [0,1,2] R [[],[],[]] (fun φ w hgd=>?_)
         obtain ⟨hq67,hF⟩:=hF
         obtain ⟨hq68,hF⟩:=hF
         refine AtH.take [0,1,2] hgd 0 R R R R (D':=#[Y,N,N,N,N,N,N,N,N,N]) (by kernel_rfl) (fun _ _ _ _ h=>h) R (je (ja R) qz) ?_
         refine AtH.take [0,1,2] hgd 1 R R R R (D':=#[Y,Y,N,N,N,N,N,N,N,N]) (by kernel_rfl) (fun _ _ _ _ h=>h) R (jc (ja R) 2 R Vl ty_41) ?_
         refine AtH.take [0,1,2] hgd 2 R R R R (D':=#[Y,Y,Y,N,N,N,N,N,N,N]) (by kernel_rfl) (fun _ _ _ _ h=>h) R (jb (x:=(.tv (kInt .i64) (w64 (t24+(1:Int))))) (ja R)) ?_
         refine AtH.take [0,1,2] hgd 3 R R R R (D':=#[Y,Y,Y,Y,N,N,N,N,N,N]) (by kernel_rfl) (fun _ _ _ _ h=>h) R (je (ja R) qz) ?_
         refine AtH.take [0,1,2] hgd 4 R R R R (D':=#[Y,Y,Y,Y,Y,N,N,N,N,N]) (by kernel_rfl) (fun _ _ _ _ h=>h) R (jc (ja R) 2 R Vl ty_41) ?_
         refine AtH.take [0,1,2] hgd 5 R R R R (D':=#[Y,Y,Y,Y,Y,Y,N,N,N,N]) (by kernel_rfl) (fun _ _ _ _ h=>h) R (jt (ja R) Tryz.underlying41) ?_
         refine AtH.take [0,1,2] hgd 6 R R R R (D':=#[Y,Y,Y,Y,Y,Y,Y,N,N,N]) (by kernel_rfl) (fun _ _ _ _ h=>h) R (jk (ja R) (ja R) (bin_rem hq67)) ?_
         refine AtH.take [0,1,2] hgd 7 R R R R (D':=#[Y,Y,Y,Y,Y,Y,Y,Y,N,N]) (by kernel_rfl) (fun _ _ _ _ h=>h) R (vj (⟨#[]⟩:BA) (ja R) (ja R) Tryz.underlying41 ty_9 hq68) ?_
         refine AtH.take [0,1,2] hgd 8 R R R R (D':=#[Y,Y,Y,Y,Y,Y,Y,Y,Y,N]) (by kernel_rfl) (fun _ _ _ _ h=>h) R (vw (K:=kStr) (ja R) ty_9) ?_
         refine AtH.take [0,1,2] hgd 9 R R R R (D':=#[Y,Y,Y,Y,Y,Y,Y,Y,Y,Y]) (by kernel_rfl) (fun _ _ _ _ h=>h) R (jd (x:=(.tv kStr (rd (⟨#[]⟩:BA) ((rd zObject p1.m.Objects t18).Refs) (Int.tmod (w64 (t24+(1:Int))) (((rd zObject p1.m.Objects t18).Refs).length:Int))))) (ja R)) ?_
         refine AtH.done (by kernel_rfl) ?_
         refine At.vl (At.seq (At.region (At.d R R R R (jb (x:=(.tv kStr (rd (⟨#[]⟩:BA) ((rd zObject p1.m.Objects t18).Refs) t24))) (ja R)) ?_)))
         refine At.d R R R R (jb (x:=(.tv kStr (rd (⟨#[]⟩:BA) ((rd zObject p1.m.Objects t18).Refs) (Int.tmod (w64 (t24+(1:Int))) (((rd zObject p1.m.Objects t18).Refs).length:Int))))) (ja R)) ?_
         refine At.d R R R R (does_smin (ja R) (ja R)) ?_
         refine At.d R R R R (jb (x:=(.tv kStr (rd (⟨#[]⟩:BA) ((rd zObject p1.m.Objects t18).Refs) t24))) (ja R)) ?_
         refine At.d R R R R (jb (x:=(.tv kStr (rd (⟨#[]⟩:BA) ((rd zObject p1.m.Objects t18).Refs) (Int.tmod (w64 (t24+(1:Int))) (((rd zObject p1.m.Objects t18).Refs).length:Int))))) (ja R)) ?_
         refine At.d R R R R (does_smax (ja R) (ja R)) ?_
         refine At.d R R R R (vd (jr (ja R) (jr (ja R) js)) zr_50 bd_50 R (fills_cons R yp (fills_cons R yw fills_nil))) ?_
         refine At.f R (eff_alloc R R R tz_50) ?_
         rintro _ _ ⟨g28,rfl,rfl⟩
         refine At.f R (jz R R (ja R) 0 R (Sub.self (kPair kStr kStr)) ty_50 (ja R)) ?_
         rintro _ _ ⟨rfl,rfl⟩
         refine At.done (At.vl (At.seq ?_))
         refine At.draw mixed [0,1,2,3] R [[],[],[2],[]] (fun φ w hgd=>?_)
         replace hF:=W.vq hF
         refine AtH.take [0,1,2,3] hgd 0 R R R R (D':=#[Y,N,N,N,N,N,N]) (by kernel_rfl) (fun _ _ _ _ h=>h) R (jb (x:=(.eq (.map (some g2)))) (ja R)) ?_
         refine AtH.take [0,1,2,3] hgd 1 R R R R (D':=#[Y,Y,N,N,N,N,N]) (by kernel_rfl) (fun _ _ _ _ h=>h) R (jc (ja R) 0 R (Sub.self (kPair kStr kStr)) ty_50) ?_
         refine AtH.take [0,1,3] hgd 3 R R R R (D':=#[Y,Y,N,Y,N,N,N]) (by kernel_rfl) (fun _ _ _ _ h=>h) R (je (ja R) zg) ?_
         refine AtH.take [0,1,3] hgd 4 R R R R (D':=#[Y,Y,N,Y,Y,N,N]) (by kernel_rfl) (fun _ _ _ _ h=>h) R (jc (ja R) 2 R qm ty_9) ?_
         refine AtH.all1 2 (by kernel_rfl) ?_
         refine AtH.f [(0,0),(1,1),(3,3)] R R R R R R (eff_lookR R R R (ja R) 2 R mtr_116 (ja R)) (D':=#[Y,Y,Y,Y,Y,N,N]) (by kernel_rfl) (by kernel_rfl) ?_
         rintro _ _ ⟨v80,j38,s38,rfl,rfl⟩
         refine ⟨_,.inr ⟨R,flat_eq⟩,?_⟩
         refine AtH.all1 5 (by kernel_rfl) ?_
         refine AtH.f [(0,1),(1,2),(3,4)] R R R R R R (jn R R (lends_row 0 75 R R jp) (jq R en_36 (jf (ja R) (jf (ja R) jg))) (Jm.ok hF) (by rintro _ _ ⟨r,_,rfl,_⟩;exact vp)) (D':=#[Y,Y,Y,Y,Y,Y,N]) (by kernel_rfl) (by kernel_rfl) ?_
         rintro _ _ ⟨_,_,⟨r20,hF,rfl,rfl⟩,rfl,rfl⟩
         refine ⟨_,.inr ⟨R,vp⟩,?_⟩
         refine AtH.take [0,1,3] hgd 6 R R R R (D':=#[Y,Y,Y,Y,Y,Y,Y]) (by kernel_rfl) (fun _ _ _ _ h=>h) R (ve (ja R)) ?_
         refine AtH.done (by kernel_rfl) ?_
         refine At.vl ?_
         refine At.cond (ja R) (fun hb55=>?_) (fun hb55=>?_)
         ·replace hF:=W.ite_t hb55 hF
          refine At.region (At.d R R R R (jb (x:=(.eq (.map (some g2)))) (ja R)) ?_)
          refine At.d R R R R (jc (ja R) 1 R (Sub.self (kPair kStr kStr)) ty_50) ?_
          refine At.d R R R R (je (ja R) zg) ?_
          refine At.d R R R R (jc (ja R) 4 R qm ty_9) ?_
          refine At.f R (vc R R R (os:=[.tmp 84]) R sl_41 (xs:=([(rd zObject p1.m.Objects t18).Id]:List BA)) (jf (ja R) jg) R R) ?_
          rintro _ _ ⟨v81,rfl,rfl⟩
          refine At.mclose 4 1 R R R ?_
          refine At.f R (eff_mapEntry R R R (ja R) 4 R mtr_116 (ja R)) ?_
          rintro _ _ ⟨v82,w55,j39,s39,rfl,rfl⟩
          refine At.d R R R R (does_extract20 (ja R)) ?_
          obtain ⟨hq69,hF⟩:=hF
          refine At.f R (eff_append_row R R R 0 1 R R (ja R) (ja R) sl_41 hq69) ?_
          rintro _ _ ⟨v83,rfl,rfl⟩
          refine At.d R R R R (does_extract21 (ja R)) ?_
          refine At.f R (eff_entryStore R R (ja R) 5 0 R R (ja R) R (ja R)) ?_
          rintro _ _ ⟨w56,rfl,rfl⟩
          refine At.done ?_
          refine At.n ?_
          refine At.vl (At.region (At.d R R R R (jk (ja R) (ji _ _) vf) ?_))
          refine At.d R R R R (jb (x:=(.tv (kInt .i64) (w64 (t24+(1:Int))))) (ja R)) ?_
          refine At.done (At.vl ?_)
          refine At.w [4,5,6] R [(1,(.eq (.pointer (some ⟨g1,0,none⟩)))),(3,(.eq (.map (some g2)))),(5,(.eq (.pointer (some ⟨g25,0,none⟩)))),(17,(.tv (kSlice kObject) p1.m.Objects)),(18,(.tv (kInt .i64) (p1.m.Objects.length:Int))),(19,(.tv (kInt .i64) t18)),(38,(.tv (kSlice kStr) ((rd zObject p1.m.Objects t18).Refs))),(39,(.tv (kInt .i64) (((rd zObject p1.m.Objects t18).Refs).length:Int))),(40,(.tv (kInt .i64) (w64 (t24+(1:Int)))))] ⟨R,R,R,R,R,R,R,R,R,trivial⟩ (At.r ⟨(mset ((sMin (rd (⟨#[]⟩:BA) ((rd zObject p1.m.Objects t18).Refs) t24) (rd (⟨#[]⟩:BA) ((rd zObject p1.m.Objects t18).Refs) (Int.tmod (w64 (t24+(1:Int))) (((rd zObject p1.m.Objects t18).Refs).length:Int)))),(sMax (rd (⟨#[]⟩:BA) ((rd zObject p1.m.Objects t18).Refs) t24) (rd (⟨#[]⟩:BA) ((rd zObject p1.m.Objects t18).Refs) (Int.tmod (w64 (t24+(1:Int))) (((rd zObject p1.m.Objects t18).Refs).length:Int))))) ((mget ((sMin (rd (⟨#[]⟩:BA) ((rd zObject p1.m.Objects t18).Refs) t24) (rd (⟨#[]⟩:BA) ((rd zObject p1.m.Objects t18).Refs) (Int.tmod (w64 (t24+(1:Int))) (((rd zObject p1.m.Objects t18).Refs).length:Int)))),(sMax (rd (⟨#[]⟩:BA) ((rd zObject p1.m.Objects t18).Refs) t24) (rd (⟨#[]⟩:BA) ((rd zObject p1.m.Objects t18).Refs) (Int.tmod (w64 (t24+(1:Int))) (((rd zObject p1.m.Objects t18).Refs).length:Int))))) ([]:List BA) x43)++([(rd zObject p1.m.Objects t18).Id]:List BA)) x43),w56,(w64 (t24+(1:Int))),hF,R,R⟩)
         ·replace hF:=W.ite_f hb55 hF
          refine At.skip ?_
          refine At.n ?_
          refine At.vl (At.region (At.d R R R R (jk (ja R) (ji _ _) vf) ?_))
          refine At.d R R R R (jb (x:=(.tv (kInt .i64) (w64 (t24+(1:Int))))) (ja R)) ?_
          refine At.done (At.vl ?_)
          refine At.mclose 3 0 R R R ?_
          refine At.w [2,3,4] R [(1,(.eq (.pointer (some ⟨g1,0,none⟩)))),(3,(.eq (.map (some g2)))),(5,(.eq (.pointer (some ⟨g25,0,none⟩)))),(17,(.tv (kSlice kObject) p1.m.Objects)),(18,(.tv (kInt .i64) (p1.m.Objects.length:Int))),(19,(.tv (kInt .i64) t18)),(38,(.tv (kSlice kStr) ((rd zObject p1.m.Objects t18).Refs))),(39,(.tv (kInt .i64) (((rd zObject p1.m.Objects t18).Refs).length:Int))),(40,(.tv (kInt .i64) (w64 (t24+(1:Int)))))] ⟨R,R,R,R,R,R,R,R,R,trivial⟩ (At.r ⟨x43,w54,(w64 (t24+(1:Int))),hF,R,R⟩)
       ·replace hF:=W.ite_f hb53 hF
        refine At.exit ?_
        refine At.x (At.x ?_)
        refine At.h ?_
        refine At.n ?_
        refine At.vl ?_
        refine At.w [0,1] R [(1,(.eq (.pointer (some ⟨g1,0,none⟩)))),(3,(.eq (.map (some g2)))),(17,(.tv (kSlice kObject) p1.m.Objects)),(18,(.tv (kInt .i64) (p1.m.Objects.length:Int))),(19,(.tv (kInt .i64) t18))] ⟨R,R,R,R,R,trivial⟩ (At.r ⟨x43,w54,hF,R,R⟩)
    ·rintro _ _ ⟨x40,w47,hF,rfl,rfl⟩
     unfold Jd.c3 at hF
     refine At.region (At.d R R R R (jk (ja R) (ji _ _) vf) ?_)
     refine At.d R R R R (jb (x:=(.tv (kInt .i64) (w64 (t18+(1:Int))))) (ja R)) ?_
     refine At.done (At.vl ?_)
     refine At.w [0,1] R [(1,(.eq (.pointer (some ⟨g1,0,none⟩)))),(3,(.eq (.map (some g2)))),(17,(.tv (kSlice kObject) p1.m.Objects)),(18,(.tv (kInt .i64) (p1.m.Objects.length:Int))),(19,(.tv (kInt .i64) (w64 (t18+(1:Int)))))] ⟨R,R,R,R,R,trivial⟩ (At.r ⟨x40,w47,(w64 (t18+(1:Int))),hF,R,R⟩)
   ·replace hF:=W.ite_f hb38 hF
    refine At.exit ?_
    refine At.x (At.x ?_)
    refine At.h ?_
    refine At.vl ?_
    refine At.w [1] R [(3,(.eq (.map (some g2))))] ⟨R,trivial⟩ (At.r ⟨x36,w39,hF,R,R⟩)
 ·rintro _ _ ⟨x12,w20,hF,rfl,rfl⟩
  unfold Jd.c1 at hF
  refine At.seq (At.region (At.d R R R R (jb (x:=(.eq (.map (some g2)))) (ja R)) ?_))
  refine At.d R R R R (does_len_mrow (ja R) 0 R Tryz.underlying116) ?_
  obtain ⟨hq19,hF⟩:=hF
  refine At.f R (eff_make0 R R R sl_79 (ji _ _) (ja R) hq19) ?_
  rintro _ _ ⟨v21,rfl,rfl⟩
  refine At.d R R R R (jd (x:=(.eq v21)) (ja R)) ?_
  refine At.done (At.vl ?_)
  refine At.cut (fun rs L=>∃ (x19:(List Jv)) (v29:Value),Jd.c2 x19 Q∧rs=[.row v29 82 Ju x19]∧L=mkL [(11,(.eq v29))]) ?_ ?_
  ·refine At.seq (At.region (At.d R R R R (jb (x:=(.eq (.map (some g2)))) (ja R)) ?_))
   refine At.mrowfreeze 1 [3,91,94] R ⟨R,R,R,trivial⟩ ?_
   refine At.f R (eff_range R R R (ja R) Tryz.underlying116 (((⟨#[]⟩:BA),(⟨#[]⟩:BA)),([]:List BA))) ?_
   rintro _ _ ⟨g12,rfl,rfl⟩
   refine At.done (At.vl (At.block ?_))
   obtain ⟨n1,hF⟩:=hF
   refine At.w [1,0] R [(11,(.eq v21)),(95,(.eq (.pointer (some ⟨g12,0,none⟩))))] ⟨R,R,trivial⟩ ?_
   refine At.loop (fun m rs L=>∃ (x24:(List Jv)) (v36:Value) (x25:(List ((BA×BA)×(List BA)))) (b10:Bool) (e10:((BA×BA)×(List BA))),W.iter2 (Jd.l1 (Jd.c2)) m x24 x25 Q∧rs=[.row v36 82 Ju x24,.iter g12 (kPair kStr kStr) (kSlice kStr) x25 b10 e10]∧L=mkL [(11,(.eq v36)),(95,(.eq (.pointer (some ⟨g12,0,none⟩))))]) ?_ ?_ (m:=n1) ⟨([]:List Jv),v21,x12,false,(((⟨#[]⟩:BA),(⟨#[]⟩:BA)),([]:List BA)),hF,R,R⟩
   ·rintro rs L ⟨_,_,_,_,_,hF,_,_⟩;exact hF
   ·rintro m1 _ _ ⟨x24,v36,x25,b10,e10,hF,rfl,rfl⟩
    replace hF:=W.iter2_s hF
    unfold Jd.l1 at hF
    refine At.seq (At.region (At.f R (eff_next R R R (ja R) 1 R hF) ?_))
    rintro _ _ ⟨b11,e11,l5,hF,rfl,rfl⟩
    refine At.d R R R R (does_extract_tcons (ja R)) ?_
    refine At.done (At.vl (At.seq ?_))
    refine At.cond (ja R) (fun hb21=>?_) (fun hb21=>?_)
    ·replace hF:=W.ite_t hb21 hF
     refine At.skip (At.vl (At.block (At.seq (At.region ?_))))
     obtain ⟨hq28,hF⟩:=hF
     refine At.d R R R R (does_entry (ja R) 1 R hq28) ?_
     refine At.d R R R R (does_extract20 (ja R)) ?_
     refine At.d R R R R (does_extract21 (ja R)) ?_
     refine At.f R (eff_alloc R R R tz_50) ?_
     rintro _ _ ⟨g15,rfl,rfl⟩
     refine At.f R (jz R R (ja R) 0 R (Sub.self (kPair kStr kStr)) ty_50 (ja R)) ?_
     rintro _ _ ⟨rfl,rfl⟩
     refine At.d R R R R (jd (x:=(.tv (kSlice kStr) e11.2)) (ja R)) ?_
     refine At.done (At.vl (At.region (At.d R R R R (jb (x:=(.eq v36)) (ja R)) ?_)))
     refine At.d R R R R (jc (ja R) 0 R (Sub.self (kPair kStr kStr)) ty_50) ?_
     refine At.d R R R R (jb (x:=(.tv (kSlice kStr) e11.2)) (ja R)) ?_
     refine At.d R R R R (vd (jr (ja R) (jr (ja R) js)) zr_82 bd_82 R (fills_cons R wj (fills_cons R zq fills_nil))) ?_
     refine At.f R (vc R R R (os:=[.tmp 104]) R sl_79 (xs:=([(⟨e11.1,e11.2⟩:Jv)]:List Jv)) (jf (ja R) jg) R R) ?_
     rintro _ _ ⟨v37,rfl,rfl⟩
     obtain ⟨hq29,hF⟩:=hF
     refine At.f R (eff_append_row R R R 2 0 R R (ja R) (ja R) sl_79 hq29) ?_
     rintro _ _ ⟨v38,rfl,rfl⟩
     refine At.d R R R R (jd (x:=(.eq v38)) (ja R)) ?_
     refine At.done ?_
     refine At.n ?_
     refine At.vl ?_
     refine At.w [2,3] R [(11,(.eq v38)),(95,(.eq (.pointer (some ⟨g12,0,none⟩))))] ⟨R,R,trivial⟩ (At.r ⟨(x24++([(⟨e11.1,e11.2⟩:Jv)]:List Jv)),v38,l5,b11,e11,hF,R,R⟩)
    ·replace hF:=W.ite_f hb21 hF
     refine At.exit ?_
     refine At.x (At.x ?_)
     refine At.h ?_
     refine At.vl ?_
     refine At.w [0] R [(11,(.eq v36))] ⟨R,trivial⟩ (At.r ⟨x24,v36,hF,R,R⟩)
  ·rintro _ _ ⟨x19,v29,hF,rfl,rfl⟩
   unfold Jd.c2 at hF
   refine At.seq (At.region (At.d R R R R (jb (x:=(.eq v29)) (ja R)) ?_))
   replace hF:=W.vq hF
   refine At.f R (jo R R (jq R en_66 (jf (ja R) (jf (opd_fn 67) jg))) [0] R (Vm.ok hF)) ?_
   rintro _ _ ⟨_,_,⟨r7,hF,rfl,rfl⟩,rfl,rfl⟩
   refine At.done (At.vl (At.seq (At.region (At.d R R R R (jb (x:=(.eq v29)) (ja R)) ?_))))
   refine At.d R R R R (jd (x:=(.eq v29)) (ja R)) ?_
   refine At.done (At.vl (At.ret ?_))
   exact At.j rfl (rv_tmp rfl) [0] rfl ⟨r7,_,hF,rfl,rfl⟩
def qh.F (p1:Va) (id1:BA):W Point:=W.req (0≤(mget id1 (0:Int) p1.at_)∧(mget id1 (0:Int) p1.at_)<(p1.m.Objects.length:Int)) (W.ret ((rd zObject p1.m.Objects (mget id1 (0:Int) p1.at_)).At))
theorem qh.ok {p1:Va} {id1:BA} {Q:Point→Prop} (hF:qh.F p1 id1 Q):Con Tryz.prog 35 [.tv Jy p1,.tv kStr id1] [] (fun ta rs'=>∃ (r:Point),Q r∧ta=.tv kPoint r∧rs'=[]):=by
 refine Con.i Tryz.func35 Tryz.ntmps35 R R (fun C=>?_)
 unfold qh.F at hF
 refine At.seq (At.region (At.f R (jy R R R (ja R)) ?_))
 rintro _ _ ⟨g1,rfl,rfl⟩
 refine At.f R (eff_alloc R R R tz_37) ?_
 rintro _ _ ⟨g2,rfl,rfl⟩
 refine At.done (At.vl (At.seq (At.region (At.d R R R R (je (ja R) fa_76_0) ?_))))
 refine At.d R R R R (je (ja R) qq) ?_
 refine At.d R R R R (jc (ja R) 1 R sub_border_parcel_0_0 ty_22) ?_
 refine At.d R R R R (je (ja R) fa_76_1) ?_
 refine At.d R R R R (jc (ja R) 1 R sub_border_parcel_1 ty_74) ?_
 refine At.d R R R R (jb (x:=(.tv kStr id1)) (ja R)) ?_
 refine At.d R R R R (does_lookF (ja R) mt_74 (ja R)) ?_
 obtain ⟨hq1,hF⟩:=hF
 refine At.d R R R R (vj zObject (ja R) (ja R) Tryz.underlying22 ty_59 hq1) ?_
 refine At.d R R R R (Ji (K:=kObject) (ja R) jb6 wm) ?_
 refine At.d R R R R (vw (K:=kPoint) (ja R) ty_37) ?_
 refine At.f R (jz R R (ja R) 0 R (Sub.self kPoint) ty_37 (ja R)) ?_
 rintro _ _ ⟨rfl,rfl⟩
 refine At.done (At.vl (At.ret ?_))
 exact At.j rfl (rv_cell rfl 0 rfl ty_37) [] rfl ⟨(rd zObject p1.m.Objects (mget id1 (0:Int) p1.at_)).At,hF,rfl,rfl⟩
def Jj.c1 (x4:(List Segment)):W (List Segment):=W.ret x4
def Jj.l1 (p1:Va) (l1:(List Jv)) (K1:(List Segment)→W (List Segment)) (A1:(List Segment)→Int→W (List Segment)) (x7:(List Segment)) (t6:Int):W (List Segment):=W.ite (decide (t6<(l1.length:Int))) (W.req (0≤t6∧t6<(l1.length:Int)) (W.bind (qh.F p1 ((rd Vd l1 t6).nodes.1)) (fun r9=>W.bind (qh.F p1 ((rd Vd l1 t6).nodes.2)) (fun r10=>W.req ((x7.length+([(⟨r9,r10⟩:Segment)]:List Segment).length)*32≤140737488355328∧x7.length+([(⟨r9,r10⟩:Segment)]:List Segment).length≤140737488355328) (A1 (x7++([(⟨r9,r10⟩:Segment)]:List Segment)) (w64 (t6+(1:Int)))))))) (K1 x7)
def Jj.F (p1:Va) (l1:(List Jv)):W (List Segment):=W.ex fun n=>W.iter2 (Jj.l1 p1 l1 (Jj.c1)) n ([]:List Segment) (0:Int)
theorem Jj.ok {p1:Va} {l1:(List Jv)} {Q:(List Segment)→Prop} (hF:Jj.F p1 l1 Q):Con Tryz.prog 32 [.tv Jy p1,.tv (kSlice Ju) l1] [] (fun ta rs'=>∃ (r:(List Segment)) (u0:Value),Q r∧ta=.eq u0∧rs'=[.row u0 39 kSegment r]):=by
 refine Con.i Tryz.func32 Tryz.ntmps32 R R (fun C=>?_)
 unfold Jj.F at hF
 refine At.seq (At.region (At.f R (jy R R R (ja R)) ?_))
 rintro _ _ ⟨g1,rfl,rfl⟩
 refine At.d R R R R (jd (x:=(.eq (.slice none 0 0))) (opd_eq _)) ?_
 refine At.done (At.vl (At.seq (At.region (At.d R R R R (jd (x:=(.eq (.slice none 0 0))) (opd_eq _)) ?_))))
 refine At.done (At.vl ?_)
 refine At.cut (fun rs L=>∃ (x4:(List Segment)) (v12:Value),Jj.c1 x4 Q∧rs=[.row v12 39 kSegment x4]∧L=mkL [(5,(.eq v12))]) ?_ ?_
 ·refine At.seq (At.region (At.d R R R R (jb (x:=(.tv (kSlice Ju) l1)) (ja R)) ?_))
  refine At.d R R R R (jt (ja R) Tryz.underlying79) ?_
  refine At.d R R R R (jb (x:=(.tv (kInt .i64) (0:Int))) (ji _ _)) ?_
  refine At.done (At.vl (At.block ?_))
  refine At.nilrow 39 kSegment ?_
  obtain ⟨n1,hF⟩:=hF
  refine At.w [1,0] R [(2,(.eq (.pointer (some ⟨g1,0,none⟩)))),(5,(.eq (.slice none 0 0))),(8,(.tv (kSlice Ju) l1)),(9,(.tv (kInt .i64) (l1.length:Int))),(10,(.tv (kInt .i64) (0:Int)))] ⟨R,R,R,R,R,trivial⟩ ?_
  refine At.loop (fun m rs L=>∃ (x7:(List Segment)) (v23:Value) (t6:Int),W.iter2 (Jj.l1 p1 l1 (Jj.c1)) m x7 t6 Q∧rs=[.box g1 76 Jy p1,.row v23 39 kSegment x7]∧L=mkL [(2,(.eq (.pointer (some ⟨g1,0,none⟩)))),(5,(.eq v23)),(8,(.tv (kSlice Ju) l1)),(9,(.tv (kInt .i64) (l1.length:Int))),(10,(.tv (kInt .i64) t6))]) ?_ ?_ (m:=n1) ⟨([]:List Segment),(.slice none 0 0),(0:Int),hF,R,R⟩
  ·rintro rs L ⟨_,_,_,hF,_,_⟩;exact hF
  ·rintro m1 _ _ ⟨x7,v23,t6,hF,rfl,rfl⟩
   replace hF:=W.iter2_s hF
   unfold Jj.l1 at hF
   refine At.seq (At.region (At.d R R R R (jk (ja R) (ja R) vg) ?_))
   refine At.done (At.vl (At.seq ?_))
   refine At.cond (ja R) (fun hb5=>?_) (fun hb5=>?_)
   ·replace hF:=W.ite_t hb5 hF
    refine At.skip (At.vl (At.seq (At.block (At.seq (At.region ?_)))))
    obtain ⟨hq9,hF⟩:=hF
    refine At.d R R R R (vj Vd (ja R) (ja R) Tryz.underlying79 ty_82 hq9) ?_
    refine At.d R R R R (vw (K:=Ju) (ja R) ty_82) ?_
    refine At.f R (eff_alloc R R R tz_82) ?_
    rintro _ _ ⟨g6,rfl,rfl⟩
    refine At.f R (jz R R (ja R) 0 R (Sub.self Ju) ty_82 (ja R)) ?_
    rintro _ _ ⟨rfl,rfl⟩
    refine At.done (At.vl ?_)
    refine At.draw mixed [0,1,2] R [[],[],[13]] (fun φ w hgd=>?_)
    replace hF:=W.vq hF
    refine AtH.take [0,1,2] hgd 0 R R R R (D':=#[Y,N,N,N,N,N,N,N,N,N,N,N,N,N,N]) (by kernel_rfl) (fun _ _ _ _ h=>h) R (jb (x:=(.eq v23)) (ja R)) ?_
    refine AtH.take [0,1] hgd 1 R R R R (D':=#[Y,Y,N,N,N,N,N,N,N,N,N,N,N,N,N]) (by kernel_rfl) (fun _ _ _ _ h=>h) R (jc (ja R) 1 R (Sub.self Jy) ty_76) ?_
    refine AtH.take [0,1] hgd 2 R R R R (D':=#[Y,Y,Y,N,N,N,N,N,N,N,N,N,N,N,N]) (by kernel_rfl) (fun _ _ _ _ h=>h) R (je (ja R) zu) ?_
    refine AtH.take [0,1] hgd 3 R R R R (D':=#[Y,Y,Y,Y,N,N,N,N,N,N,N,N,N,N,N]) (by kernel_rfl) (fun _ _ _ _ h=>h) R (does_aidx_box (ja R) (ji _ _) jb2) ?_
    refine AtH.take [0,1] hgd 4 R R R R (D':=#[Y,Y,Y,Y,Y,N,N,N,N,N,N,N,N,N,N]) (by kernel_rfl) (fun _ _ _ _ h=>h) R (jc (ja R) 0 R zh ty_9) ?_
    refine AtH.take [0,1] hgd 6 R R R R (D':=#[Y,Y,Y,Y,Y,N,Y,N,N,N,N,N,N,N,N]) (by kernel_rfl) (fun _ _ _ _ h=>h) R (jc (ja R) 1 R (Sub.self Jy) ty_76) ?_
    refine AtH.take [0,1] hgd 7 R R R R (D':=#[Y,Y,Y,Y,Y,N,Y,Y,N,N,N,N,N,N,N]) (by kernel_rfl) (fun _ _ _ _ h=>h) R (je (ja R) zu) ?_
    refine AtH.take [0,1] hgd 8 R R R R (D':=#[Y,Y,Y,Y,Y,N,Y,Y,Y,N,N,N,N,N,N]) (by kernel_rfl) (fun _ _ _ _ h=>h) R (does_aidx_box (ja R) (ji _ _) ia_50_1) ?_
    refine AtH.take [0,1] hgd 9 R R R R (D':=#[Y,Y,Y,Y,Y,N,Y,Y,Y,Y,N,N,N,N,N]) (by kernel_rfl) (fun _ _ _ _ h=>h) R (jc (ja R) 0 R ze ty_9) ?_
    refine AtH.all1 5 (by kernel_rfl) ?_
    refine AtH.f [(0,0),(1,1),(2,2)] R R R R R R (jn R R jp (jq R en_35 (jf (ja R) (jf (ja R) jg))) (qh.ok hF) (by rintro _ _ ⟨r,_,rfl,_⟩;exact (flat_tv ja5))) (D':=#[Y,Y,Y,Y,Y,Y,Y,Y,Y,Y,N,N,N,N,N]) (by kernel_rfl) (by kernel_rfl) ?_
    rintro _ _ ⟨_,_,⟨r9,hF,rfl,rfl⟩,rfl,rfl⟩
    refine ⟨_,.inr ⟨R,(flat_tv ja5)⟩,?_⟩
    replace hF:=W.vq hF
    refine AtH.all1 10 (by kernel_rfl) ?_
    refine AtH.f [(0,0),(1,1),(2,2)] R R R R R R (jn R R jp (jq R en_35 (jf (ja R) (jf (ja R) jg))) (qh.ok hF) (by rintro _ _ ⟨r,_,rfl,_⟩;exact (flat_tv ja5))) (D':=#[Y,Y,Y,Y,Y,Y,Y,Y,Y,Y,Y,N,N,N,N]) (by kernel_rfl) (by kernel_rfl) ?_
    rintro _ _ ⟨_,_,⟨r10,hF,rfl,rfl⟩,rfl,rfl⟩
    refine ⟨_,.inr ⟨R,(flat_tv ja5)⟩,?_⟩
    obtain ⟨hq10,hF⟩:=hF
    refine AtH.take [0,1] hgd 11 R R R R (D':=#[Y,Y,Y,Y,Y,Y,Y,Y,Y,Y,Y,Y,N,N,N]) (by kernel_rfl) (fun _ _ _ _ h=>h) R (vd (jr (ja R) (jr (ja R) js)) zr_39 bd_39 R (fills_cons R Jf (fills_cons R Jg fills_nil))) ?_
    refine AtH.all1 12 (by kernel_rfl) ?_
    refine AtH.f [(0,0),(1,1),(2,2)] R R R R R R (vc R R R (os:=[.tmp 25]) R sl_27 (xs:=([(⟨r9,r10⟩:Segment)]:List Segment)) (jf (ja R) jg) R R) (D':=#[Y,Y,Y,Y,Y,Y,Y,Y,Y,Y,Y,Y,Y,N,N]) (by kernel_rfl) (by kernel_rfl) ?_
    rintro _ _ ⟨v26,rfl,rfl⟩
    refine ⟨_,.inr ⟨R,flat_eq⟩,?_⟩
    refine AtH.all1 13 (by kernel_rfl) ?_
    refine AtH.f [(0,1),(1,2)] R R R R R R (eff_append_row R R R 3 0 R R (ja R) (ja R) sl_27 hq10) (D':=#[Y,Y,Y,Y,Y,Y,Y,Y,Y,Y,Y,Y,Y,Y,N]) (by kernel_rfl) (by kernel_rfl) ?_
    rintro _ _ ⟨v27,rfl,rfl⟩
    refine ⟨_,.inr ⟨R,flat_eq⟩,?_⟩
    refine AtH.take [0,1] hgd 14 R R R R (D':=#[Y,Y,Y,Y,Y,Y,Y,Y,Y,Y,Y,Y,Y,Y,Y]) (by kernel_rfl) (fun _ _ _ _ h=>h) R (jd (x:=(.eq v27)) (ja R)) ?_
    refine AtH.done (by kernel_rfl) ?_
    refine At.n ?_
    refine At.vl (At.region (At.d R R R R (jk (ja R) (ji _ _) vf) ?_))
    refine At.d R R R R (jb (x:=(.tv (kInt .i64) (w64 (t6+(1:Int))))) (ja R)) ?_
    refine At.done (At.vl ?_)
    refine At.w [2,3] R [(2,(.eq (.pointer (some ⟨g1,0,none⟩)))),(5,(.eq v27)),(8,(.tv (kSlice Ju) l1)),(9,(.tv (kInt .i64) (l1.length:Int))),(10,(.tv (kInt .i64) (w64 (t6+(1:Int)))))] ⟨R,R,R,R,R,trivial⟩ (At.r ⟨(x7++([(⟨r9,r10⟩:Segment)]:List Segment)),v27,(w64 (t6+(1:Int))),hF,R,R⟩)
   ·replace hF:=W.ite_f hb5 hF
    refine At.exit ?_
    refine At.x (At.x ?_)
    refine At.h ?_
    refine At.vl ?_
    refine At.w [1] R [(5,(.eq v23))] ⟨R,trivial⟩ (At.r ⟨x7,v23,hF,R,R⟩)
 ·rintro _ _ ⟨x4,v12,hF,rfl,rfl⟩
  unfold Jj.c1 at hF
  refine At.seq (At.region (At.d R R R R (jb (x:=(.eq v12)) (ja R)) ?_))
  refine At.d R R R R (jd (x:=(.eq v12)) (ja R)) ?_
  refine At.done (At.vl (At.ret ?_))
  exact At.j rfl (rv_tmp rfl) [0] rfl ⟨x4,_,hF,rfl,rfl⟩
def vt.c1 (s1:(List BA)):W (List BA):=W.ret s1
def vt.c2 (k34:Int) (A1:Int→W (List BA)):W (List BA):=A1 (w64 (k34+(1:Int)))
def vt.c3 (x24:(List BA)) (k48:Int):W (List BA):=W.req (0≤k48∧k48≤(x24.length:Int)) (W.req (x24.length≤x24.length) (W.req (0≤k48∧k48≤((x24.take k48.toNat++(List.replicate (x24.length-k48.toNat) (⟨#[]⟩:BA)++x24.drop x24.length)).length:Int)) (W.req (k48.toNat≤(x24.take k48.toNat++(List.replicate (x24.length-k48.toNat) (⟨#[]⟩:BA)++x24.drop x24.length)).length) (W.ret ((x24.take k48.toNat++(List.replicate (x24.length-k48.toNat) (⟨#[]⟩:BA)++x24.drop x24.length)).take k48.toNat)))))
def vt.l2 (s1:(List BA)) (k34:Int) (K3:(List BA)→Int→W (List BA)) (A2:(List BA)→Int→Int→W (List BA)) (x27:(List BA)) (k53:Int) (k54:Int):W (List BA):=W.ite (decide (k54<((s1.length-k34.toNat:Nat):Int))) (W.req (0≤k54∧k54<((s1.length-k34.toNat:Nat):Int)) (W.req (0≤(((k34.toNat:Nat):Int)+k54)∧(((k34.toNat:Nat):Int)+k54)<(x27.length:Int)) (W.req (0≤(w64 (k54-(1:Int)))∧(w64 (k54-(1:Int)))<((s1.length-k34.toNat:Nat):Int)) (W.req (0≤(((k34.toNat:Nat):Int)+(w64 (k54-(1:Int))))∧(((k34.toNat:Nat):Int)+(w64 (k54-(1:Int))))<(x27.length:Int)) (W.ite (!(sEq (rd (⟨#[]⟩:BA) x27 (((k34.toNat:Nat):Int)+k54)) (rd (⟨#[]⟩:BA) x27 (((k34.toNat:Nat):Int)+(w64 (k54-(1:Int))))))) (W.req (0≤k54∧k54<((s1.length-k34.toNat:Nat):Int)) (W.req (0≤(((k34.toNat:Nat):Int)+k54)∧(((k34.toNat:Nat):Int)+k54)<(x27.length:Int)) (W.req (0≤k53∧k53<(x27.length:Int)) (W.req (0≤k53∧k53<(x27.length:Int)) (A2 (x27.set k53.toNat (rd (⟨#[]⟩:BA) x27 (((k34.toNat:Nat):Int)+k54))) (w64 (k53+(1:Int))) (w64 (k54+(1:Int)))))))) (A2 x27 k53 (w64 (k54+(1:Int))))))))) (K3 x27 k53)
def vt.l1 (s1:(List BA)) (K1:W (List BA)) (A1:Int→W (List BA)) (k34:Int):W (List BA):=W.ite (decide (k34<(s1.length:Int))) (W.req (0≤k34∧k34<(s1.length:Int)) (W.req (0≤(w64 (k34-(1:Int)))∧(w64 (k34-(1:Int)))<(s1.length:Int)) (W.ite (sEq (rd (⟨#[]⟩:BA) s1 k34) (rd (⟨#[]⟩:BA) s1 (w64 (k34-(1:Int))))) (W.req (0≤k34∧k34≤(s1.length:Int)) (W.ex fun n=>W.iter3 (vt.l2 s1 k34 (vt.c3)) n s1 k34 (1:Int))) ((vt.c2 k34 A1))))) (K1)
def vt.F (s1:(List BA)):W (List BA):=W.ite (decide ((s1.length:Int)<(2:Int))) (W.ret s1) (W.ex fun n=>W.iter1 (vt.l1 s1 (vt.c1 s1)) n (1:Int))
theorem vt.ok {s1:(List BA)} {v1:Value} {Q:(List BA)→Prop} (hF:vt.F s1 Q):Con Tryz.prog 38 [.eq v1] [.row v1 50 kStr s1] (fun ta rs'=>∃ (r:(List BA)) (u0:Value),Q r∧ta=.eq u0∧rs'=[.row u0 50 kStr r]):=by
 refine Con.i Tryz.func38 Tryz.ntmps38 R R (fun C=>?_)
 unfold vt.F at hF
 refine At.seq (At.region (At.d R R R R (jd (x:=(.eq (.slice none 0 0))) (opd_eq _)) ?_))
 refine At.done (At.vl (At.seq (At.seq (At.region (At.d R R R R (jb (x:=(.eq v1)) (ja R)) ?_)))))
 refine At.d R R R R (does_len_row (ja R) 0 R Tryz.underlying41) ?_
 refine At.d R R R R (jk (ja R) (ji _ _) vg) ?_
 refine At.done (At.vl ?_)
 refine At.cond (ja R) (fun hb1=>?_) (fun hb1=>?_)
 ·replace hF:=W.ite_t hb1 hF
  refine At.seq (At.region (At.d R R R R (jb (x:=(.eq v1)) (ja R)) ?_))
  refine At.d R R R R (jd (x:=(.eq v1)) (ja R)) ?_
  refine At.done (At.vl (At.ret (At.vm ?_)))
  exact At.j rfl (rv_tmp rfl) [0] rfl ⟨s1,_,hF,rfl,rfl⟩
 ·replace hF:=W.ite_f hb1 hF
  refine At.skip (At.vl ?_)
  refine At.cut (fun rs L=>∃ _:Unit,vt.c1 s1 Q∧rs=[.row v1 50 kStr s1]∧L=mkL [(0,(.eq v1))]) ?_ ?_
  ·refine At.seq (At.region (At.d R R R R (jd (x:=(.tv (kInt .i64) (1:Int))) (ji _ _)) ?_))
   refine At.done (At.vl (At.block ?_))
   obtain ⟨n2,hF⟩:=hF
   refine At.w [0] R [(0,(.eq v1)),(3,(.tv (kInt .i64) (1:Int)))] ⟨R,R,trivial⟩ ?_
   refine At.loop (fun m rs L=>∃ (k34:Int),W.iter1 (vt.l1 s1 (vt.c1 s1)) m k34 Q∧rs=[.row v1 50 kStr s1]∧L=mkL [(0,(.eq v1)),(3,(.tv (kInt .i64) k34))]) ?_ ?_ (m:=n2) ⟨(1:Int),hF,R,R⟩
   ·rintro rs L ⟨_,hF,_,_⟩;exact hF
   ·rintro m1 _ _ ⟨k34,hF,rfl,rfl⟩
    replace hF:=W.iter1_s hF
    unfold vt.l1 at hF
    refine At.seq (At.seq (At.region (At.d R R R R (jb (x:=(.tv (kInt .i64) k34)) (ja R)) ?_)))
    refine At.d R R R R (jb (x:=(.eq v1)) (ja R)) ?_
    refine At.d R R R R (does_len_row (ja R) 0 R Tryz.underlying41) ?_
    refine At.d R R R R (jk (ja R) (ja R) vg) ?_
    refine At.done (At.vl ?_)
    refine At.cond (ja R) (fun hb26=>?_) (fun hb26=>?_)
    ·replace hF:=W.ite_t hb26 hF
     refine At.skip (At.vl ?_)
     refine At.cut (fun rs L=>∃ _:Unit,vt.c2 k34 (W.iter1 (vt.l1 s1 (vt.c1 s1)) m1) Q∧rs=[.row v1 50 kStr s1]∧L=mkL [(0,(.eq v1)),(3,(.tv (kInt .i64) k34))]) ?_ ?_
     ·refine At.block (At.seq ?_)
      refine At.draw mixed [0] R [[]] (fun φ w hgd=>?_)
      obtain ⟨hq111,hF⟩:=hF
      obtain ⟨hq112,hF⟩:=hF
      refine AtH.take [0] hgd 0 R R R R (D':=#[Y,N,N,N,N,N,N,N,N,N]) (by kernel_rfl) (fun _ _ _ _ h=>h) R (jb (x:=(.eq v1)) (ja R)) ?_
      refine AtH.take [0] hgd 1 R R R R (D':=#[Y,Y,N,N,N,N,N,N,N,N]) (by kernel_rfl) (fun _ _ _ _ h=>h) R (jb (x:=(.tv (kInt .i64) k34)) (ja R)) ?_
      refine AtH.take [0] hgd 2 R R R R (D':=#[Y,Y,Y,N,N,N,N,N,N,N]) (by kernel_rfl) (fun _ _ _ _ h=>h) R (does_idx_row (ja R) 0 R (ja R) Tryz.underlying41 ty_9 hq111) ?_
      refine AtH.take [0] hgd 3 R R R R (D':=#[Y,Y,Y,Y,N,N,N,N,N,N]) (by kernel_rfl) (fun _ _ _ _ h=>h) R (Jh (ja R) 0 R k34 0 R (⟨#[]⟩:BA) hq111 (Sub.self kStr) ty_9) ?_
      refine AtH.take [0] hgd 4 R R R R (D':=#[Y,Y,Y,Y,Y,N,N,N,N,N]) (by kernel_rfl) (fun _ _ _ _ h=>h) R (jb (x:=(.eq v1)) (ja R)) ?_
      refine AtH.take [0] hgd 5 R R R R (D':=#[Y,Y,Y,Y,Y,Y,N,N,N,N]) (by kernel_rfl) (fun _ _ _ _ h=>h) R (jb (x:=(.tv (kInt .i64) k34)) (ja R)) ?_
      refine AtH.take [0] hgd 6 R R R R (D':=#[Y,Y,Y,Y,Y,Y,Y,N,N,N]) (by kernel_rfl) (fun _ _ _ _ h=>h) R (jk (ja R) (ji _ _) bin_sub) ?_
      refine AtH.take [0] hgd 7 R R R R (D':=#[Y,Y,Y,Y,Y,Y,Y,Y,N,N]) (by kernel_rfl) (fun _ _ _ _ h=>h) R (does_idx_row (ja R) 0 R (ja R) Tryz.underlying41 ty_9 hq112) ?_
      refine AtH.take [0] hgd 8 R R R R (D':=#[Y,Y,Y,Y,Y,Y,Y,Y,Y,N]) (by kernel_rfl) (fun _ _ _ _ h=>h) R (Jh (ja R) 0 R (w64 (k34-(1:Int))) 0 R (⟨#[]⟩:BA) hq112 (Sub.self kStr) ty_9) ?_
      refine AtH.take [0] hgd 9 R R R R (D':=#[Y,Y,Y,Y,Y,Y,Y,Y,Y,Y]) (by kernel_rfl) (fun _ _ _ _ h=>h) R (jk (ja R) (ja R) bin_seql) ?_
      refine AtH.done (by kernel_rfl) ?_
      refine At.vl ?_
      refine At.cond (ja R) (fun hb32=>?_) (fun hb32=>?_)
      ·replace hF:=W.ite_t hb32 hF
       refine At.seq (At.region (At.d R R R R (jb (x:=(.eq v1)) (ja R)) ?_))
       refine At.d R R R R (jb (x:=(.tv (kInt .i64) k34)) (ja R)) ?_
       obtain ⟨hq113,hF⟩:=hF
       refine At.d R R R R (does_cutrow_l (ja R) 0 R (ja R) Tryz.underlying41 ty_9 hq113) ?_
       refine At.d R R R R (jd (x:=(cutv k34.toNat s1.length kStr.sz v1)) (ja R)) ?_
       refine At.done (At.vl ?_)
       refine At.cut (fun rs L=>∃ (x24:(List BA)) (k48:Int),vt.c3 x24 k48 Q∧rs=[.row v1 50 kStr x24]∧L=mkL [(0,(.eq v1)),(3,(.tv (kInt .i64) k48))]) ?_ ?_
       ·refine At.seq (At.region (At.d R R R R (jd (x:=(.tv (kInt .i64) (1:Int))) (ji _ _)) ?_))
        refine At.done (At.vl (At.block ?_))
        obtain ⟨n1,hF⟩:=hF
        refine At.w [0] R [(0,(.eq v1)),(3,(.tv (kInt .i64) k34)),(4,(cutv k34.toNat s1.length kStr.sz v1)),(5,(.tv (kInt .i64) (1:Int)))] ⟨R,R,R,R,trivial⟩ ?_
        refine At.loop (fun m rs L=>∃ (x27:(List BA)) (k53:Int) (k54:Int),W.iter3 (vt.l2 s1 k34 (vt.c3)) m x27 k53 k54 Q∧rs=[.row v1 50 kStr x27]∧L=mkL [(0,(.eq v1)),(3,(.tv (kInt .i64) k53)),(4,(cutv k34.toNat s1.length kStr.sz v1)),(5,(.tv (kInt .i64) k54))]) ?_ ?_ (m:=n1) ⟨s1,k34,(1:Int),hF,R,R⟩
        ·rintro rs L ⟨_,_,_,hF,_,_⟩;exact hF
        ·rintro m2 _ _ ⟨x27,k53,k54,hF,rfl,rfl⟩
         replace hF:=W.iter3_s hF
         unfold vt.l2 at hF
         refine At.seq (At.seq (At.region (At.d R R R R (jb (x:=(.tv (kInt .i64) k54)) (ja R)) ?_)))
         refine At.d R R R R (jb (x:=(cutv k34.toNat s1.length kStr.sz v1)) (ja R)) ?_
         refine At.d R R R R (does_len_cut (ja R) Tryz.underlying41) ?_
         refine At.d R R R R (jk (ja R) (ja R) vg) ?_
         refine At.done (At.vl ?_)
         refine At.cond (ja R) (fun hb41=>?_) (fun hb41=>?_)
         ·replace hF:=W.ite_t hb41 hF
          refine At.skip (At.vl (At.seq (At.block (At.seq ?_))))
          refine At.draw mixed [0] R [[]] (fun φ w hgd=>?_)
          obtain ⟨hq150,hF⟩:=hF
          obtain ⟨hq151,hF⟩:=hF
          obtain ⟨hq152,hF⟩:=hF
          obtain ⟨hq153,hF⟩:=hF
          refine AtH.take [0] hgd 0 R R R R (D':=#[Y,N,N,N,N,N,N,N,N,N]) (by kernel_rfl) (fun _ _ _ _ h=>h) R (jb (x:=(cutv k34.toNat s1.length kStr.sz v1)) (ja R)) ?_
          refine AtH.take [0] hgd 1 R R R R (D':=#[Y,Y,N,N,N,N,N,N,N,N]) (by kernel_rfl) (fun _ _ _ _ h=>h) R (jb (x:=(.tv (kInt .i64) k54)) (ja R)) ?_
          refine AtH.take [0] hgd 2 R R R R (D':=#[Y,Y,Y,N,N,N,N,N,N,N]) (by kernel_rfl) (fun _ _ _ _ h=>h) R (does_idx_cut (ja R) 0 R (ja R) Tryz.underlying41 ty_9 hq150) ?_
          refine AtH.take [0] hgd 3 R R R R (D':=#[Y,Y,Y,Y,N,N,N,N,N,N]) (by kernel_rfl) (fun _ _ _ _ h=>h) R (Jh (ja R) 0 R (((k34.toNat:Nat):Int)+k54) 0 R (⟨#[]⟩:BA) hq151 (Sub.self kStr) ty_9) ?_
          refine AtH.take [0] hgd 4 R R R R (D':=#[Y,Y,Y,Y,Y,N,N,N,N,N]) (by kernel_rfl) (fun _ _ _ _ h=>h) R (jb (x:=(cutv k34.toNat s1.length kStr.sz v1)) (ja R)) ?_
          refine AtH.take [0] hgd 5 R R R R (D':=#[Y,Y,Y,Y,Y,Y,N,N,N,N]) (by kernel_rfl) (fun _ _ _ _ h=>h) R (jb (x:=(.tv (kInt .i64) k54)) (ja R)) ?_
          refine AtH.take [0] hgd 6 R R R R (D':=#[Y,Y,Y,Y,Y,Y,Y,N,N,N]) (by kernel_rfl) (fun _ _ _ _ h=>h) R (jk (ja R) (ji _ _) bin_sub) ?_
          refine AtH.take [0] hgd 7 R R R R (D':=#[Y,Y,Y,Y,Y,Y,Y,Y,N,N]) (by kernel_rfl) (fun _ _ _ _ h=>h) R (does_idx_cut (ja R) 0 R (ja R) Tryz.underlying41 ty_9 hq152) ?_
          refine AtH.take [0] hgd 8 R R R R (D':=#[Y,Y,Y,Y,Y,Y,Y,Y,Y,N]) (by kernel_rfl) (fun _ _ _ _ h=>h) R (Jh (ja R) 0 R (((k34.toNat:Nat):Int)+(w64 (k54-(1:Int)))) 0 R (⟨#[]⟩:BA) hq153 (Sub.self kStr) ty_9) ?_
          refine AtH.take [0] hgd 9 R R R R (D':=#[Y,Y,Y,Y,Y,Y,Y,Y,Y,Y]) (by kernel_rfl) (fun _ _ _ _ h=>h) R (jk (ja R) (ja R) bin_sneq) ?_
          refine AtH.done (by kernel_rfl) ?_
          refine At.vl ?_
          refine At.cond (ja R) (fun hb42=>?_) (fun hb42=>?_)
          ·replace hF:=W.ite_t hb42 hF
           refine At.seq (At.region (At.d R R R R (jb (x:=(.eq v1)) (ja R)) ?_))
           refine At.d R R R R (jb (x:=(.tv (kInt .i64) k53)) (ja R)) ?_
           refine At.d R R R R (jb (x:=(cutv k34.toNat s1.length kStr.sz v1)) (ja R)) ?_
           refine At.d R R R R (jb (x:=(.tv (kInt .i64) k54)) (ja R)) ?_
           obtain ⟨hq154,hF⟩:=hF
           refine At.d R R R R (does_idx_cut (ja R) 0 R (ja R) Tryz.underlying41 ty_9 hq154) ?_
           obtain ⟨hq155,hF⟩:=hF
           refine At.d R R R R (Jh (ja R) 0 R (((k34.toNat:Nat):Int)+k54) 0 R (⟨#[]⟩:BA) hq155 (Sub.self kStr) ty_9) ?_
           obtain ⟨hq156,hF⟩:=hF
           refine At.d R R R R (does_idx_row (ja R) 0 R (ja R) Tryz.underlying41 ty_9 hq156) ?_
           obtain ⟨hq157,hF⟩:=hF
           refine At.f R (eff_store_elem R R (ja R) 0 R k53 0 R (⟨#[]⟩:BA) hq157 (Sub.self kStr) ty_9 (ja R)) ?_
           rintro _ _ ⟨rfl,rfl⟩
           refine At.done (At.vl (At.region (At.d R R R R (jb (x:=(.tv (kInt .i64) k53)) (ja R)) ?_)))
           refine At.d R R R R (jk (ja R) (ji _ _) vf) ?_
           refine At.d R R R R (jd (x:=(.tv (kInt .i64) (w64 (k53+(1:Int))))) (ja R)) ?_
           refine At.done ?_
           refine At.n ?_
           refine At.vl (At.region (At.d R R R R (jb (x:=(.tv (kInt .i64) k54)) (ja R)) ?_))
           refine At.d R R R R (jk (ja R) (ji _ _) vf) ?_
           refine At.d R R R R (jd (x:=(.tv (kInt .i64) (w64 (k54+(1:Int))))) (ja R)) ?_
           refine At.done (At.vl ?_)
           refine At.w [0] R [(0,(.eq v1)),(3,(.tv (kInt .i64) (w64 (k53+(1:Int))))),(4,(cutv k34.toNat s1.length kStr.sz v1)),(5,(.tv (kInt .i64) (w64 (k54+(1:Int)))))] ⟨R,R,R,R,trivial⟩ (At.r ⟨(x27.set k53.toNat (rd (⟨#[]⟩:BA) x27 (((k34.toNat:Nat):Int)+k54))),(w64 (k53+(1:Int))),(w64 (k54+(1:Int))),hF,R,R⟩)
          ·replace hF:=W.ite_f hb42 hF
           refine At.skip ?_
           refine At.n ?_
           refine At.vl (At.region (At.d R R R R (jb (x:=(.tv (kInt .i64) k54)) (ja R)) ?_))
           refine At.d R R R R (jk (ja R) (ji _ _) vf) ?_
           refine At.d R R R R (jd (x:=(.tv (kInt .i64) (w64 (k54+(1:Int))))) (ja R)) ?_
           refine At.done (At.vl ?_)
           refine At.w [0] R [(0,(.eq v1)),(3,(.tv (kInt .i64) k53)),(4,(cutv k34.toNat s1.length kStr.sz v1)),(5,(.tv (kInt .i64) (w64 (k54+(1:Int)))))] ⟨R,R,R,R,trivial⟩ (At.r ⟨x27,k53,(w64 (k54+(1:Int))),hF,R,R⟩)
         ·replace hF:=W.ite_f hb41 hF
          refine At.exit ?_
          refine At.x (At.x ?_)
          refine At.h ?_
          refine At.vl ?_
          refine At.w [0] R [(0,(.eq v1)),(3,(.tv (kInt .i64) k53))] ⟨R,R,trivial⟩ (At.r ⟨x27,k53,hF,R,R⟩)
       ·rintro _ _ ⟨x24,k48,hF,rfl,rfl⟩
        unfold vt.c3 at hF
        refine At.seq (At.region (At.d R R R R (jb (x:=(.eq v1)) (ja R)) ?_))
        refine At.d R R R R (jb (x:=(.tv (kInt .i64) k48)) (ja R)) ?_
        obtain ⟨hq130,hF⟩:=hF
        refine At.d R R R R (does_cutrow_l (ja R) 0 R (ja R) Tryz.underlying41 ty_9 hq130) ?_
        obtain ⟨hq131,hF⟩:=hF
        refine At.f R (eff_clear_cut R R 0 R (ja R) hq131 Tryz.underlying41 tz_9) ?_
        rintro _ _ ⟨rfl,rfl⟩
        refine At.done (At.vl (At.seq (At.region (At.d R R R R (jb (x:=(.eq v1)) (ja R)) ?_))))
        refine At.d R R R R (jb (x:=(.tv (kInt .i64) k48)) (ja R)) ?_
        obtain ⟨hq132,hF⟩:=hF
        refine At.d R R R R (does_cutrow_h (ja R) 0 R (ja R) Tryz.underlying41 ty_9 hq132) ?_
        refine At.d R R R R (jd (x:=(cutv 0 k48.toNat kStr.sz v1)) (ja R)) ?_
        refine At.done (At.vl (At.ret ?_))
        refine At.q ?_
        refine At.vm (At.vm ?_)
        refine At.q ?_
        refine At.vm ?_
        obtain ⟨hq133,hF⟩:=hF
        refine At.cutrow 0 2 R R hq133 (fun v2=>?_)
        exact At.j rfl (rv_tmp rfl) [0] rfl ⟨((x24.take k48.toNat++(List.replicate (x24.length-k48.toNat) (⟨#[]⟩:BA)++x24.drop x24.length)).take k48.toNat),_,hF,rfl,rfl⟩
      ·replace hF:=W.ite_f hb32 hF
       refine At.skip ?_
       refine At.n ?_
       refine At.vl ?_
       refine At.w [0] R [(0,(.eq v1)),(3,(.tv (kInt .i64) k34))] ⟨R,R,trivial⟩ (At.r ⟨(),hF,R,R⟩)
     ·rintro _ _ ⟨_,hF,rfl,rfl⟩
      unfold vt.c2 at hF
      refine At.region (At.d R R R R (jb (x:=(.tv (kInt .i64) k34)) (ja R)) ?_)
      refine At.d R R R R (jk (ja R) (ji _ _) vf) ?_
      refine At.d R R R R (jd (x:=(.tv (kInt .i64) (w64 (k34+(1:Int))))) (ja R)) ?_
      refine At.done (At.vl ?_)
      refine At.w [0] R [(0,(.eq v1)),(3,(.tv (kInt .i64) (w64 (k34+(1:Int)))))] ⟨R,R,trivial⟩ (At.r ⟨(w64 (k34+(1:Int))),hF,R,R⟩)
    ·replace hF:=W.ite_f hb26 hF
     refine At.exit ?_
     refine At.x (At.x ?_)
     refine At.h ?_
     refine At.vl ?_
     refine At.w [0] R [(0,(.eq v1))] ⟨R,trivial⟩ (At.r ⟨(),hF,R,R⟩)
  ·rintro _ _ ⟨_,hF,rfl,rfl⟩
   unfold vt.c1 at hF
   refine At.seq (At.region (At.d R R R R (jb (x:=(.eq v1)) (ja R)) ?_))
   refine At.d R R R R (jd (x:=(.eq v1)) (ja R)) ?_
   refine At.done (At.vl (At.ret ?_))
   exact At.j rfl (rv_tmp rfl) [0] rfl ⟨s1,_,hF,rfl,rfl⟩
def Jk.c1 (s1:(List BA)) (s2:(List BA)):W Int:=W.ite (decide ((s1.length:Int)<(s2.length:Int))) (W.ret (-1:Int)) (W.ret (0:Int))
def Jk.l1 (s1:(List BA)) (s2:(List BA)) (K1:W Int) (A1:Int→W Int) (t6:Int):W Int:=W.ite (decide (t6<(s1.length:Int))) (W.req (0≤t6∧t6<(s1.length:Int)) (W.ite (decide ((s2.length:Int)≤t6)) (W.ret (1:Int)) (W.req (0≤t6∧t6<(s2.length:Int)) (W.bind (wb.F (rd (⟨#[]⟩:BA) s1 t6) (rd (⟨#[]⟩:BA) s2 t6)) (fun r5=>W.ite (r5 != (0:Int)) (W.ret r5) (A1 (w64 (t6+(1:Int))))))))) (K1)
def Jk.F (s1:(List BA)) (s2:(List BA)):W Int:=W.ex fun n=>W.iter1 (Jk.l1 s1 s2 (Jk.c1 s1 s2)) n (0:Int)
theorem Jk.ok {s1:(List BA)} {s2:(List BA)} {Q:Int→Prop} (hF:Jk.F s1 s2 Q):Con Tryz.prog 41 [.tv (kSlice kStr) s1,.tv (kSlice kStr) s2] [] (fun ta rs'=>∃ (r:Int),Q r∧ta=.tv (kInt .i64) r∧rs'=[]):=by
 refine Con.i Tryz.func41 Tryz.ntmps41 R R (fun C=>?_)
 unfold Jk.F at hF
 refine At.seq (At.region (At.d R R R R (jd (x:=(.tv (kInt .i64) (0:Int))) (ji _ _)) ?_))
 refine At.done (At.vl ?_)
 refine At.cut (fun rs L=>∃ _:Unit,Jk.c1 s1 s2 Q∧rs=[]∧L=mkL [(0,(.tv (kSlice kStr) s1)),(1,(.tv (kSlice kStr) s2))]) ?_ ?_
 ·refine At.seq (At.region (At.d R R R R (jb (x:=(.tv (kSlice kStr) s1)) (ja R)) ?_))
  refine At.d R R R R (jt (ja R) Tryz.underlying41) ?_
  refine At.d R R R R (jb (x:=(.tv (kInt .i64) (0:Int))) (ji _ _)) ?_
  refine At.done (At.vl (At.block ?_))
  obtain ⟨n1,hF⟩:=hF
  refine At.w [] R [(0,(.tv (kSlice kStr) s1)),(1,(.tv (kSlice kStr) s2)),(9,(.tv (kSlice kStr) s1)),(10,(.tv (kInt .i64) (s1.length:Int))),(11,(.tv (kInt .i64) (0:Int)))] ⟨R,R,R,R,R,trivial⟩ ?_
  refine At.loop (fun m rs L=>∃ (t6:Int),W.iter1 (Jk.l1 s1 s2 (Jk.c1 s1 s2)) m t6 Q∧rs=[]∧L=mkL [(0,(.tv (kSlice kStr) s1)),(1,(.tv (kSlice kStr) s2)),(9,(.tv (kSlice kStr) s1)),(10,(.tv (kInt .i64) (s1.length:Int))),(11,(.tv (kInt .i64) t6))]) ?_ ?_ (m:=n1) ⟨(0:Int),hF,R,R⟩
  ·rintro rs L ⟨_,hF,_,_⟩;exact hF
  ·rintro m1 _ _ ⟨t6,hF,rfl,rfl⟩
   replace hF:=W.iter1_s hF
   unfold Jk.l1 at hF
   refine At.seq (At.region (At.d R R R R (jk (ja R) (ja R) vg) ?_))
   refine At.done (At.vl (At.seq ?_))
   refine At.cond (ja R) (fun hb14=>?_) (fun hb14=>?_)
   ·replace hF:=W.ite_t hb14 hF
    refine At.skip (At.vl (At.seq (At.block (At.seq (At.region (At.d R R R R (jb (x:=(.tv (kInt .i64) t6)) (ja R)) ?_))))))
    obtain ⟨hq9,hF⟩:=hF
    refine At.d R R R R (vj (⟨#[]⟩:BA) (ja R) (ja R) Tryz.underlying41 ty_9 hq9) ?_
    refine At.d R R R R (vw (K:=kStr) (ja R) ty_9) ?_
    refine At.d R R R R (jd (x:=(.tv (kInt .i64) t6)) (ja R)) ?_
    refine At.d R R R R (jd (x:=(.tv kStr (rd (⟨#[]⟩:BA) s1 t6))) (ja R)) ?_
    refine At.done (At.vl (At.seq (At.seq (At.region (At.d R R R R (jb (x:=(.tv (kInt .i64) t6)) (ja R)) ?_)))))
    refine At.d R R R R (jb (x:=(.tv (kSlice kStr) s2)) (ja R)) ?_
    refine At.d R R R R (jt (ja R) Tryz.underlying41) ?_
    refine At.d R R R R (jk (ja R) (ja R) bin_geq) ?_
    refine At.done (At.vl ?_)
    refine At.cond (ja R) (fun hb15=>?_) (fun hb15=>?_)
    ·replace hF:=W.ite_t hb15 hF
     refine At.seq (At.region (At.d R R R R (jd (x:=(.tv (kInt .i64) (1:Int))) (ji _ _)) ?_))
     refine At.done (At.vl (At.ret (At.vm ?_)))
     refine At.q ?_
     refine At.vm (At.vm ?_)
     refine At.q ?_
     refine At.vm ?_
     exact At.j rfl (rv_tmp rfl) [] rfl ⟨(1:Int),hF,rfl,rfl⟩
    ·replace hF:=W.ite_f hb15 hF
     refine At.skip (At.vl (At.seq (At.region (At.d R R R R (jb (x:=(.tv (kSlice kStr) s2)) (ja R)) ?_))))
     refine At.d R R R R (jb (x:=(.tv (kInt .i64) t6)) (ja R)) ?_
     obtain ⟨hq10,hF⟩:=hF
     refine At.d R R R R (vj (⟨#[]⟩:BA) (ja R) (ja R) Tryz.underlying41 ty_9 hq10) ?_
     refine At.d R R R R (vw (K:=kStr) (ja R) ty_9) ?_
     refine At.d R R R R (jd (x:=(.tv kStr (rd (⟨#[]⟩:BA) s2 t6))) (ja R)) ?_
     refine At.done (At.vl (At.seq (At.region (At.d R R R R (jb (x:=(.tv kStr (rd (⟨#[]⟩:BA) s1 t6))) (ja R)) ?_))))
     refine At.d R R R R (jb (x:=(.tv kStr (rd (⟨#[]⟩:BA) s2 t6))) (ja R)) ?_
     replace hF:=W.vq hF
     refine At.f R (jn R R jp (jq R en_73 (jf (ja R) (jf (ja R) jg))) (wb.ok hF) (by rintro _ _ ⟨r,_,rfl,_⟩;exact flat_int)) ?_
     rintro _ _ ⟨_,_,⟨r5,hF,rfl,rfl⟩,rfl,rfl⟩
     refine At.d R R R R (jd (x:=(.tv (kInt .i64) r5)) (ja R)) ?_
     refine At.done (At.vl (At.seq (At.region (At.d R R R R (jb (x:=(.tv (kInt .i64) r5)) (ja R)) ?_))))
     refine At.d R R R R (jk (ja R) (ji _ _) bin_neq) ?_
     refine At.done (At.vl ?_)
     refine At.cond (ja R) (fun hb16=>?_) (fun hb16=>?_)
     ·replace hF:=W.ite_t hb16 hF
      refine At.seq (At.region (At.d R R R R (jb (x:=(.tv (kInt .i64) r5)) (ja R)) ?_))
      refine At.d R R R R (jd (x:=(.tv (kInt .i64) r5)) (ja R)) ?_
      refine At.done (At.vl (At.ret ?_))
      refine At.q ?_
      refine At.vm (At.vm ?_)
      refine At.q ?_
      refine At.vm ?_
      exact At.j rfl (rv_tmp rfl) [] rfl ⟨r5,hF,rfl,rfl⟩
     ·replace hF:=W.ite_f hb16 hF
      refine At.skip ?_
      refine At.n ?_
      refine At.vl (At.region (At.d R R R R (jk (ja R) (ji _ _) vf) ?_))
      refine At.d R R R R (jb (x:=(.tv (kInt .i64) (w64 (t6+(1:Int))))) (ja R)) ?_
      refine At.done (At.vl ?_)
      refine At.w [] R [(0,(.tv (kSlice kStr) s1)),(1,(.tv (kSlice kStr) s2)),(9,(.tv (kSlice kStr) s1)),(10,(.tv (kInt .i64) (s1.length:Int))),(11,(.tv (kInt .i64) (w64 (t6+(1:Int)))))] ⟨R,R,R,R,R,trivial⟩ (At.r ⟨(w64 (t6+(1:Int))),hF,R,R⟩)
   ·replace hF:=W.ite_f hb14 hF
    refine At.exit ?_
    refine At.x (At.x ?_)
    refine At.h ?_
    refine At.vl ?_
    refine At.w [] R [(0,(.tv (kSlice kStr) s1)),(1,(.tv (kSlice kStr) s2))] ⟨R,R,trivial⟩ (At.r ⟨(),hF,R,R⟩)
 ·rintro _ _ ⟨_,hF,rfl,rfl⟩
  unfold Jk.c1 at hF
  refine At.seq (At.seq (At.region (At.d R R R R (jb (x:=(.tv (kSlice kStr) s1)) (ja R)) ?_)))
  refine At.d R R R R (jt (ja R) Tryz.underlying41) ?_
  refine At.d R R R R (jb (x:=(.tv (kSlice kStr) s2)) (ja R)) ?_
  refine At.d R R R R (jt (ja R) Tryz.underlying41) ?_
  refine At.d R R R R (jk (ja R) (ja R) vg) ?_
  refine At.done (At.vl ?_)
  refine At.cond (ja R) (fun hb7=>?_) (fun hb7=>?_)
  ·replace hF:=W.ite_t hb7 hF
   refine At.seq (At.region (At.d R R R R (jd (x:=(.tv (kInt .i64) (-1:Int))) (ji _ _)) ?_))
   refine At.done (At.vl (At.ret (At.vm ?_)))
   exact At.j rfl (rv_tmp rfl) [] rfl ⟨(-1:Int),hF,rfl,rfl⟩
  ·replace hF:=W.ite_f hb7 hF
   refine At.skip (At.vl (At.seq (At.region (At.d R R R R (jd (x:=(.tv (kInt .i64) (0:Int))) (ji _ _)) ?_))))
   refine At.done (At.vl (At.ret ?_))
   exact At.j rfl (rv_tmp rfl) [] rfl ⟨(0:Int),hF,rfl,rfl⟩
def zi.F (a1:Violation) (b1:Violation):W Int:=W.bind (Jk.F a1.Ids b1.Ids) (fun r1=>W.ret r1)
theorem zi.ok {a1:Violation} {b1:Violation} {Q:Int→Prop} (hF:zi.F a1 b1 Q):Con Tryz.prog 40 [.tv kViolation a1,.tv kViolation b1] [] (fun ta rs'=>∃ (r:Int),Q r∧ta=.tv (kInt .i64) r∧rs'=[]):=by
 refine Con.i Tryz.func40 Tryz.ntmps40 R R (fun C=>?_)
 unfold zi.F at hF
 refine At.seq (At.region (At.f R (jy R R R (ja R)) ?_))
 rintro _ _ ⟨g1,rfl,rfl⟩
 refine At.f R (jy R R R (ja R)) ?_
 rintro _ _ ⟨g2,rfl,rfl⟩
 refine At.d R R R R (jd (x:=(.tv (kInt .i64) (0:Int))) (ji _ _)) ?_
 refine At.done (At.vl (At.seq (At.region (At.d R R R R (je (ja R) fa_43_2) ?_))))
 refine At.d R R R R (jc (ja R) 1 R ja0 ty_41) ?_
 refine At.d R R R R (je (ja R) fa_43_2) ?_
 refine At.d R R R R (jc (ja R) 0 R ja0 ty_41) ?_
 replace hF:=W.vq hF
 refine At.f R (jn R R jp (jq R en_41 (jf (ja R) (jf (ja R) jg))) (Jk.ok hF) (by rintro _ _ ⟨r,_,rfl,_⟩;exact flat_int)) ?_
 rintro _ _ ⟨_,_,⟨r1,hF,rfl,rfl⟩,rfl,rfl⟩
 refine At.d R R R R (jd (x:=(.tv (kInt .i64) r1)) (ja R)) ?_
 refine At.done (At.vl (At.ret ?_))
 exact At.j rfl (rv_tmp rfl) [] rfl ⟨r1,hF,rfl,rfl⟩
def Vo.F (x:(List Violation)):W (List Violation):=W.sort (fun a b=>zi.F a b) x W.ret
theorem Vo.ok {x:(List Violation)} {u:Value} {Q:(List Violation)→Prop} (hF:Vo.F x Q):Con Tryz.prog 39 [.eq u,.cls 40 0 (tupl [])] [.row u 43 kViolation x] (fun ta rs'=>∃ (r:(List Violation)),Q r∧ta=.eq (.tuple #[])∧rs'=[.row u 43 kViolation r]):=by
 obtain ⟨hl,cf,hO,hc,hk⟩:=hF
 exact (con_sortFunc Tryz.sort39 rfl rfl ty_43 en_40 (fun a b ha hb=>(zi.ok (hc a b ha hb)).mono (by rintro ta rs' ⟨r,rfl,rfl,rfl⟩;rfl)) hO hl).mono (by rintro ta rs' ⟨ys,hp,hs,rfl,rfl⟩;exact ⟨ys,hk ys hp hs,rfl,rfl⟩)
end Go.Gp.Gb
end
