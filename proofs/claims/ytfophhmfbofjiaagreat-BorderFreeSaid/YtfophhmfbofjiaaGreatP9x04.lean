/- Part. -/
import Derived.Test.YtfophhmfbofjiaaGreatP9x03
import Derived.Test.YtfophhmfbofjiaaGreatRows
import Derived.Carry
section
set_option linter.unusedVariables false
set_option linter.unusedSimpArgs false
set_option maxRecDepth 100000
namespace Go.Gp.Gb
open Go.Proofs
def Vn.c1:W Bool:=W.ret true
def Vn.c2 (i6:Int) (A1:Int→W Bool):W Bool:=A1 (w64 (i6+(1:Int)))
def Vn.l2 (m1:Map) (i6:Int) (K2:W Bool) (A2:Int→W Bool) (k36:Int):W Bool:=W.ite (decide (k36<(((rd zObject m1.Objects i6).Tags).length:Int))) (W.req (0≤k36∧k36<(((rd zObject m1.Objects i6).Tags).length:Int)) (W.ite (decide ((300:Int)<(w64 ((((rd zTag ((rd zObject m1.Objects i6).Tags) k36).Key).size:Int)+(((rd zTag ((rd zObject m1.Objects i6).Tags) k36).Value).size:Int))))) (W.ret false) (A2 (w64 (k36+(1:Int)))))) (K2)
def Vn.c3 (m1:Map) (i6:Int) (K2:W Bool):W Bool:=W.ex fun n=>W.iter1 (Vn.l2 m1 i6 K2) n (0:Int)
def Vn.l3 (m1:Map) (i6:Int) (K3:W Bool) (A3:Int→W Bool) (k39:Int):W Bool:=W.ite (decide (k39<(((rd zObject m1.Objects i6).Refs).length:Int))) (W.req (0≤k39∧k39<(((rd zObject m1.Objects i6).Refs).length:Int)) (W.ite (decide ((60:Int)<((rd (⟨#[]⟩:BA) ((rd zObject m1.Objects i6).Refs) k39).size:Int))) (W.ret false) (A3 (w64 (k39+(1:Int)))))) (K3)
def Vn.l1 (m1:Map) (K1:W Bool) (A1:Int→W Bool) (i6:Int):W Bool:=W.ite (decide (i6<(m1.Objects.length:Int))) (W.req (0≤i6∧i6<(m1.Objects.length:Int)) (W.ite (((decide ((12:Int)<(((rd zObject m1.Objects i6).Refs).length:Int)))||(decide ((20:Int)<(((rd zObject m1.Objects i6).Tags).length:Int))))||(decide ((60:Int)<(((rd zObject m1.Objects i6).Id).size:Int)))) (W.ret false) (W.ex fun n=>W.iter1 (Vn.l3 m1 i6 (Vn.c3 m1 i6 (Vn.c2 i6 A1))) n (0:Int)))) (K1)
def Vn.F (m1:Map) (most1:Int):W Bool:=W.ite (decide (most1<(m1.Objects.length:Int))) (W.ret false) (W.ex fun n=>W.iter1 (Vn.l1 m1 (Vn.c1)) n (0:Int))
theorem Vn.ok {m1:Map} {most1:Int} {Q:Bool→Prop} (hF:Vn.F m1 most1 Q):Con Tryz.prog 11 [.tv kMap m1,.tv (kInt .i64) most1] [] (fun ta rs'=>∃ (r:Bool),Q r∧ta=.tv kBool r∧rs'=[]):=by
 refine Con.i Tryz.func11 Tryz.ntmps11 R R (fun C=>?_)
 unfold Vn.F at hF
 refine At.seq (At.region (At.f R (jy R R R (ja R)) ?_))
 rintro _ _ ⟨g1,rfl,rfl⟩
 refine At.d R R R R (jd (x:=(.tv kBool false)) (jl _)) ?_
 refine At.done (At.vl (At.seq (At.seq (At.region (At.d R R R R (je (ja R) qq) ?_)))))
 refine At.d R R R R (jc (ja R) 0 R qc ty_22) ?_
 refine At.d R R R R (jt (ja R) Tryz.underlying22) ?_
 refine At.d R R R R (jb (x:=(.tv (kInt .i64) most1)) (ja R)) ?_
 refine At.d R R R R (jk (ja R) (ja R) bin_gtr) ?_
 refine At.done (At.vl ?_)
 refine At.cond (ja R) (fun hb1=>?_) (fun hb1=>?_)
 ·replace hF:=W.ite_t hb1 hF
  refine At.seq (At.region (At.d R R R R (jd (x:=(.tv kBool false)) (jl _)) ?_))
  refine At.done (At.vl (At.ret (At.vm ?_)))
  exact At.j rfl (rv_tmp rfl) [] rfl ⟨false,hF,rfl,rfl⟩
 ·replace hF:=W.ite_f hb1 hF
  refine At.skip (At.vl ?_)
  refine At.cut (fun rs L=>∃ _:Unit,Vn.c1 Q∧rs=[]∧L=mkL []) ?_ ?_
  ·refine At.seq (At.region (At.d R R R R (jd (x:=(.tv (kInt .i64) (0:Int))) (ji _ _)) ?_))
   refine At.done (At.vl (At.block ?_))
   obtain ⟨n3,hF⟩:=hF
   refine At.w [0] R [(2,(.eq (.pointer (some ⟨g1,0,none⟩)))),(5,(.tv (kInt .i64) (0:Int)))] ⟨R,R,trivial⟩ ?_
   refine At.loop (fun m rs L=>∃ (i6:Int),W.iter1 (Vn.l1 m1 (Vn.c1)) m i6 Q∧rs=[.box g1 24 kMap m1]∧L=mkL [(2,(.eq (.pointer (some ⟨g1,0,none⟩)))),(5,(.tv (kInt .i64) i6))]) ?_ ?_ (m:=n3) ⟨(0:Int),hF,R,R⟩
   ·rintro rs L ⟨_,hF,_,_⟩;exact hF
   ·rintro m2 _ _ ⟨i6,hF,rfl,rfl⟩
    replace hF:=W.iter1_s hF
    unfold Vn.l1 at hF
    refine At.seq (At.seq (At.region (At.d R R R R (jb (x:=(.tv (kInt .i64) i6)) (ja R)) ?_)))
    refine At.d R R R R (je (ja R) qq) ?_
    refine At.d R R R R (jc (ja R) 0 R qc ty_22) ?_
    refine At.d R R R R (jt (ja R) Tryz.underlying22) ?_
    refine At.d R R R R (jk (ja R) (ja R) vg) ?_
    refine At.done (At.vl ?_)
    refine At.cond (ja R) (fun hb42=>?_) (fun hb42=>?_)
    ·replace hF:=W.ite_t hb42 hF
     refine At.skip (At.vl ?_)
     refine At.cut (fun rs L=>∃ _:Unit,Vn.c2 i6 (W.iter1 (Vn.l1 m1 (Vn.c1)) m2) Q∧rs=[.box g1 24 kMap m1]∧L=mkL [(2,(.eq (.pointer (some ⟨g1,0,none⟩)))),(5,(.tv (kInt .i64) i6))]) ?_ ?_
     ·refine At.block (At.seq (At.region (At.d R R R R (je (ja R) qq) ?_)))
      refine At.d R R R R (jc (ja R) 0 R qc ty_22) ?_
      refine At.d R R R R (jb (x:=(.tv (kInt .i64) i6)) (ja R)) ?_
      obtain ⟨hq26,hF⟩:=hF
      refine At.d R R R R (vj zObject (ja R) (ja R) Tryz.underlying22 ty_59 hq26) ?_
      refine At.d R R R R (vw (K:=kObject) (ja R) ty_59) ?_
      refine At.f R (eff_alloc R R R tz_59) ?_
      rintro _ _ ⟨g7,rfl,rfl⟩
      refine At.f R (jz R R (ja R) 0 R (Sub.self kObject) ty_59 (ja R)) ?_
      rintro _ _ ⟨rfl,rfl⟩
      refine At.done (At.vl (At.seq (At.seq (At.region (At.d R R R R (je (ja R) qz) ?_)))))
      refine At.d R R R R (jc (ja R) 0 R Vl ty_41) ?_
      refine At.d R R R R (jt (ja R) Tryz.underlying41) ?_
      refine At.d R R R R (jk (ja R) (ji _ _) bin_gtr) ?_
      refine At.d R R R R (jb (x:=(.tv kBool (decide ((12:Int)<(((rd zObject m1.Objects i6).Refs).length:Int))))) (ja R)) ?_
      refine At.vn R R R R (jx R) R (fun hg41=>(je (ja R) fa_59_4)) ?_
      refine At.vn R R R R (jx R) R (fun hg42=>(jc (jh R hg42) 0 R zw ty_57)) ?_
      refine At.vn R R R R (jx R) R (fun hg43=>(jt (jh R hg43) Tryz.underlying57)) ?_
      refine At.vn R R R R (jx R) R (fun hg44=>(jk (jh R hg44) (ji _ _) bin_gtr)) ?_
      refine At.d R R R R (jm (ja R) (jl _) (ja R) vi) ?_
      refine At.d R R R R (jb (x:=(.tv kBool ((decide ((12:Int)<(((rd zObject m1.Objects i6).Refs).length:Int)))||(decide ((20:Int)<(((rd zObject m1.Objects i6).Tags).length:Int)))))) (ja R)) ?_
      refine At.vn R R R R (jx R) R (fun hg45=>(je (ja R) zg)) ?_
      refine At.vn R R R R (jx R) R (fun hg46=>(jc (jh R hg46) 0 R qm ty_9)) ?_
      refine At.vn R R R R (jx R) R (fun hg47=>(does_len_str (jh R hg47) Tryz.underlying9)) ?_
      refine At.vn R R R R (jx R) R (fun hg48=>(jk (jh R hg48) (ji _ _) bin_gtr)) ?_
      refine At.d R R R R (jm (ja R) (jl _) (ja R) vi) ?_
      refine At.done (At.vl ?_)
      refine At.cond (ja R) (fun hb52=>?_) (fun hb52=>?_)
      ·replace hF:=W.ite_t hb52 hF
       refine At.seq (At.region (At.d R R R R (jd (x:=(.tv kBool false)) (jl _)) ?_))
       refine At.done (At.vl (At.ret (At.vm ?_)))
       refine At.q ?_
       refine At.vm (At.vm ?_)
       refine At.q ?_
       refine At.vm ?_
       exact At.j rfl (rv_tmp rfl) [] rfl ⟨false,hF,rfl,rfl⟩
      ·replace hF:=W.ite_f hb52 hF
       refine At.skip (At.vl ?_)
       refine At.cut (fun rs L=>∃ _:Unit,Vn.c3 m1 i6 (Vn.c2 i6 (W.iter1 (Vn.l1 m1 (Vn.c1)) m2)) Q∧rs=[.box g1 24 kMap m1,.box g7 59 kObject (rd zObject m1.Objects i6)]∧L=mkL [(2,(.eq (.pointer (some ⟨g1,0,none⟩)))),(5,(.tv (kInt .i64) i6)),(6,(.eq (.pointer (some ⟨g7,0,none⟩))))]) ?_ ?_
       ·refine At.seq (At.region (At.d R R R R (jd (x:=(.tv (kInt .i64) (0:Int))) (ji _ _)) ?_))
        refine At.done (At.vl (At.block ?_))
        obtain ⟨n2,hF⟩:=hF
        refine At.w [1,0] R [(2,(.eq (.pointer (some ⟨g1,0,none⟩)))),(5,(.tv (kInt .i64) i6)),(6,(.eq (.pointer (some ⟨g7,0,none⟩)))),(7,(.tv (kInt .i64) (0:Int)))] ⟨R,R,R,R,trivial⟩ ?_
        refine At.loop (fun m rs L=>∃ (k39:Int),W.iter1 (Vn.l3 m1 i6 (Vn.c3 m1 i6 (Vn.c2 i6 (W.iter1 (Vn.l1 m1 (Vn.c1)) m2)))) m k39 Q∧rs=[.box g1 24 kMap m1,.box g7 59 kObject (rd zObject m1.Objects i6)]∧L=mkL [(2,(.eq (.pointer (some ⟨g1,0,none⟩)))),(5,(.tv (kInt .i64) i6)),(6,(.eq (.pointer (some ⟨g7,0,none⟩)))),(7,(.tv (kInt .i64) k39))]) ?_ ?_ (m:=n2) ⟨(0:Int),hF,R,R⟩
        ·rintro rs L ⟨_,hF,_,_⟩;exact hF
        ·rintro m4 _ _ ⟨k39,hF,rfl,rfl⟩
         replace hF:=W.iter1_s hF
         unfold Vn.l3 at hF
         refine At.seq (At.seq (At.region (At.d R R R R (jb (x:=(.tv (kInt .i64) k39)) (ja R)) ?_)))
         refine At.d R R R R (je (ja R) qz) ?_
         refine At.d R R R R (jc (ja R) 1 R Vl ty_41) ?_
         refine At.d R R R R (jt (ja R) Tryz.underlying41) ?_
         refine At.d R R R R (jk (ja R) (ja R) vg) ?_
         refine At.done (At.vl ?_)
         refine At.cond (ja R) (fun hb67=>?_) (fun hb67=>?_)
         ·replace hF:=W.ite_t hb67 hF
          refine At.skip (At.vl (At.seq (At.block (At.seq (At.region (At.d R R R R (je (ja R) qz) ?_))))))
          refine At.d R R R R (jc (ja R) 1 R Vl ty_41) ?_
          refine At.d R R R R (jb (x:=(.tv (kInt .i64) k39)) (ja R)) ?_
          obtain ⟨hq34,hF⟩:=hF
          refine At.d R R R R (vj (⟨#[]⟩:BA) (ja R) (ja R) Tryz.underlying41 ty_9 hq34) ?_
          refine At.d R R R R (vw (K:=kStr) (ja R) ty_9) ?_
          refine At.d R R R R (does_len_str (ja R) Tryz.underlying9) ?_
          refine At.d R R R R (jk (ja R) (ji _ _) bin_gtr) ?_
          refine At.done (At.vl ?_)
          refine At.cond (ja R) (fun hb68=>?_) (fun hb68=>?_)
          ·replace hF:=W.ite_t hb68 hF
           refine At.seq (At.region (At.d R R R R (jd (x:=(.tv kBool false)) (jl _)) ?_))
           refine At.done (At.vl (At.ret ?_))
           refine At.q ?_
           refine At.vm (At.vm ?_)
           refine At.q ?_
           refine At.vm ?_
           refine At.q ?_
           refine At.vm (At.vm ?_)
           refine At.q ?_
           refine At.vm ?_
           exact At.j rfl (rv_tmp rfl) [] rfl ⟨false,hF,rfl,rfl⟩
          ·replace hF:=W.ite_f hb68 hF
           refine At.skip ?_
           refine At.n ?_
           refine At.vl (At.region (At.d R R R R (jb (x:=(.tv (kInt .i64) k39)) (ja R)) ?_))
           refine At.d R R R R (jk (ja R) (ji _ _) vf) ?_
           refine At.d R R R R (jd (x:=(.tv (kInt .i64) (w64 (k39+(1:Int))))) (ja R)) ?_
           refine At.done (At.vl ?_)
           refine At.w [0,1] R [(2,(.eq (.pointer (some ⟨g1,0,none⟩)))),(5,(.tv (kInt .i64) i6)),(6,(.eq (.pointer (some ⟨g7,0,none⟩)))),(7,(.tv (kInt .i64) (w64 (k39+(1:Int)))))] ⟨R,R,R,R,trivial⟩ (At.r ⟨(w64 (k39+(1:Int))),hF,R,R⟩)
         ·replace hF:=W.ite_f hb67 hF
          refine At.exit ?_
          refine At.x (At.x ?_)
          refine At.h ?_
          refine At.vl ?_
          refine At.w [0,1] R [(2,(.eq (.pointer (some ⟨g1,0,none⟩)))),(5,(.tv (kInt .i64) i6)),(6,(.eq (.pointer (some ⟨g7,0,none⟩))))] ⟨R,R,R,trivial⟩ (At.r ⟨(),hF,R,R⟩)
       ·rintro _ _ ⟨_,hF,rfl,rfl⟩
        unfold Vn.c3 at hF
        refine At.seq (At.region (At.d R R R R (jd (x:=(.tv (kInt .i64) (0:Int))) (ji _ _)) ?_))
        refine At.done (At.vl (At.block ?_))
        obtain ⟨n1,hF⟩:=hF
        refine At.w [0,1] R [(2,(.eq (.pointer (some ⟨g1,0,none⟩)))),(5,(.tv (kInt .i64) i6)),(6,(.eq (.pointer (some ⟨g7,0,none⟩)))),(8,(.tv (kInt .i64) (0:Int)))] ⟨R,R,R,R,trivial⟩ ?_
        refine At.loop (fun m rs L=>∃ (k36:Int),W.iter1 (Vn.l2 m1 i6 (Vn.c2 i6 (W.iter1 (Vn.l1 m1 (Vn.c1)) m2))) m k36 Q∧rs=[.box g1 24 kMap m1,.box g7 59 kObject (rd zObject m1.Objects i6)]∧L=mkL [(2,(.eq (.pointer (some ⟨g1,0,none⟩)))),(5,(.tv (kInt .i64) i6)),(6,(.eq (.pointer (some ⟨g7,0,none⟩)))),(8,(.tv (kInt .i64) k36))]) ?_ ?_ (m:=n1) ⟨(0:Int),hF,R,R⟩
        ·rintro rs L ⟨_,hF,_,_⟩;exact hF
        ·rintro m3 _ _ ⟨k36,hF,rfl,rfl⟩
         replace hF:=W.iter1_s hF
         unfold Vn.l2 at hF
         refine At.seq (At.seq (At.region (At.d R R R R (jb (x:=(.tv (kInt .i64) k36)) (ja R)) ?_)))
         refine At.d R R R R (je (ja R) fa_59_4) ?_
         refine At.d R R R R (jc (ja R) 1 R zw ty_57) ?_
         refine At.d R R R R (jt (ja R) Tryz.underlying57) ?_
         refine At.d R R R R (jk (ja R) (ja R) vg) ?_
         refine At.done (At.vl ?_)
         refine At.cond (ja R) (fun hb61=>?_) (fun hb61=>?_)
         ·replace hF:=W.ite_t hb61 hF
          refine At.skip (At.vl (At.seq (At.block (At.seq ?_))))
          refine At.draw mixed [0,1] R [[],[]] (fun φ w hgd=>?_)
          obtain ⟨hq31,hF⟩:=hF
          refine AtH.take [0,1] hgd 0 R R R R (D':=#[Y,N,N,N,N,N,N,N,N,N,N,N,N,N,N,N]) (by kernel_rfl) (fun _ _ _ _ h=>h) R (je (ja R) fa_59_4) ?_
          refine AtH.take [0,1] hgd 1 R R R R (D':=#[Y,Y,N,N,N,N,N,N,N,N,N,N,N,N,N,N]) (by kernel_rfl) (fun _ _ _ _ h=>h) R (jc (ja R) 1 R zw ty_57) ?_
          refine AtH.take [0,1] hgd 2 R R R R (D':=#[Y,Y,Y,N,N,N,N,N,N,N,N,N,N,N,N,N]) (by kernel_rfl) (fun _ _ _ _ h=>h) R (jb (x:=(.tv (kInt .i64) k36)) (ja R)) ?_
          refine AtH.take [0,1] hgd 3 R R R R (D':=#[Y,Y,Y,Y,N,N,N,N,N,N,N,N,N,N,N,N]) (by kernel_rfl) (fun _ _ _ _ h=>h) R (vj zTag (ja R) (ja R) Tryz.underlying57 ty_73 hq31) ?_
          refine AtH.take [0,1] hgd 4 R R R R (D':=#[Y,Y,Y,Y,Y,N,N,N,N,N,N,N,N,N,N,N]) (by kernel_rfl) (fun _ _ _ _ h=>h) R (Ji (K:=kTag) (ja R) fa_73_0 sub_Tag_0) ?_
          refine AtH.take [0,1] hgd 5 R R R R (D':=#[Y,Y,Y,Y,Y,Y,N,N,N,N,N,N,N,N,N,N]) (by kernel_rfl) (fun _ _ _ _ h=>h) R (vw (K:=kStr) (ja R) ty_9) ?_
          refine AtH.take [0,1] hgd 6 R R R R (D':=#[Y,Y,Y,Y,Y,Y,Y,N,N,N,N,N,N,N,N,N]) (by kernel_rfl) (fun _ _ _ _ h=>h) R (does_len_str (ja R) Tryz.underlying9) ?_
          refine AtH.take [0,1] hgd 7 R R R R (D':=#[Y,Y,Y,Y,Y,Y,Y,Y,N,N,N,N,N,N,N,N]) (by kernel_rfl) (fun _ _ _ _ h=>h) R (je (ja R) fa_59_4) ?_
          refine AtH.take [0,1] hgd 8 R R R R (D':=#[Y,Y,Y,Y,Y,Y,Y,Y,Y,N,N,N,N,N,N,N]) (by kernel_rfl) (fun _ _ _ _ h=>h) R (jc (ja R) 1 R zw ty_57) ?_
          refine AtH.take [0,1] hgd 9 R R R R (D':=#[Y,Y,Y,Y,Y,Y,Y,Y,Y,Y,N,N,N,N,N,N]) (by kernel_rfl) (fun _ _ _ _ h=>h) R (jb (x:=(.tv (kInt .i64) k36)) (ja R)) ?_
          refine AtH.take [0,1] hgd 10 R R R R (D':=#[Y,Y,Y,Y,Y,Y,Y,Y,Y,Y,Y,N,N,N,N,N]) (by kernel_rfl) (fun _ _ _ _ h=>h) R (vj zTag (ja R) (ja R) Tryz.underlying57 ty_73 hq31) ?_
          refine AtH.take [0,1] hgd 11 R R R R (D':=#[Y,Y,Y,Y,Y,Y,Y,Y,Y,Y,Y,Y,N,N,N,N]) (by kernel_rfl) (fun _ _ _ _ h=>h) R (Ji (K:=kTag) (ja R) fa_73_1 sub_Tag_1) ?_
          refine AtH.take [0,1] hgd 12 R R R R (D':=#[Y,Y,Y,Y,Y,Y,Y,Y,Y,Y,Y,Y,Y,N,N,N]) (by kernel_rfl) (fun _ _ _ _ h=>h) R (vw (K:=kStr) (ja R) ty_9) ?_
          refine AtH.take [0,1] hgd 13 R R R R (D':=#[Y,Y,Y,Y,Y,Y,Y,Y,Y,Y,Y,Y,Y,Y,N,N]) (by kernel_rfl) (fun _ _ _ _ h=>h) R (does_len_str (ja R) Tryz.underlying9) ?_
          refine AtH.take [0,1] hgd 14 R R R R (D':=#[Y,Y,Y,Y,Y,Y,Y,Y,Y,Y,Y,Y,Y,Y,Y,N]) (by kernel_rfl) (fun _ _ _ _ h=>h) R (jk (ja R) (ja R) vf) ?_
          refine AtH.take [0,1] hgd 15 R R R R (D':=#[Y,Y,Y,Y,Y,Y,Y,Y,Y,Y,Y,Y,Y,Y,Y,Y]) (by kernel_rfl) (fun _ _ _ _ h=>h) R (jk (ja R) (ji _ _) bin_gtr) ?_
          refine AtH.done (by kernel_rfl) ?_
          refine At.vl ?_
          refine At.cond (ja R) (fun hb62=>?_) (fun hb62=>?_)
          ·replace hF:=W.ite_t hb62 hF
           refine At.seq (At.region (At.d R R R R (jd (x:=(.tv kBool false)) (jl _)) ?_))
           refine At.done (At.vl (At.ret ?_))
           refine At.q ?_
           refine At.vm (At.vm ?_)
           refine At.q ?_
           refine At.q ?_
           refine At.vm (At.vm ?_)
           refine At.q ?_
           refine At.vm ?_
           exact At.j rfl (rv_tmp rfl) [] rfl ⟨false,hF,rfl,rfl⟩
          ·replace hF:=W.ite_f hb62 hF
           refine At.skip ?_
           refine At.n ?_
           refine At.vl (At.region (At.d R R R R (jb (x:=(.tv (kInt .i64) k36)) (ja R)) ?_))
           refine At.d R R R R (jk (ja R) (ji _ _) vf) ?_
           refine At.d R R R R (jd (x:=(.tv (kInt .i64) (w64 (k36+(1:Int))))) (ja R)) ?_
           refine At.done (At.vl ?_)
           refine At.w [0,1] R [(2,(.eq (.pointer (some ⟨g1,0,none⟩)))),(5,(.tv (kInt .i64) i6)),(6,(.eq (.pointer (some ⟨g7,0,none⟩)))),(8,(.tv (kInt .i64) (w64 (k36+(1:Int)))))] ⟨R,R,R,R,trivial⟩ (At.r ⟨(w64 (k36+(1:Int))),hF,R,R⟩)
         ·replace hF:=W.ite_f hb61 hF
          refine At.exit ?_
          refine At.x (At.x ?_)
          refine At.h ?_
          refine At.n ?_
          refine At.vl ?_
          refine At.w [0] R [(2,(.eq (.pointer (some ⟨g1,0,none⟩)))),(5,(.tv (kInt .i64) i6))] ⟨R,R,trivial⟩ (At.r ⟨(),hF,R,R⟩)
     ·rintro _ _ ⟨_,hF,rfl,rfl⟩
      unfold Vn.c2 at hF
      refine At.region (At.d R R R R (jb (x:=(.tv (kInt .i64) i6)) (ja R)) ?_)
      refine At.d R R R R (jk (ja R) (ji _ _) vf) ?_
      refine At.d R R R R (jd (x:=(.tv (kInt .i64) (w64 (i6+(1:Int))))) (ja R)) ?_
      refine At.done (At.vl ?_)
      refine At.w [0] R [(2,(.eq (.pointer (some ⟨g1,0,none⟩)))),(5,(.tv (kInt .i64) (w64 (i6+(1:Int)))))] ⟨R,R,trivial⟩ (At.r ⟨(w64 (i6+(1:Int))),hF,R,R⟩)
    ·replace hF:=W.ite_f hb42 hF
     refine At.exit ?_
     refine At.x (At.x ?_)
     refine At.h ?_
     refine At.vl ?_
     refine At.w [] R [] trivial (At.r ⟨(),hF,R,R⟩)
  ·rintro _ _ ⟨_,hF,rfl,rfl⟩
   unfold Vn.c1 at hF
   refine At.seq (At.region (At.d R R R R (jd (x:=(.tv kBool true)) (jl _)) ?_))
   refine At.done (At.vl (At.ret ?_))
   exact At.j rfl (rv_tmp rfl) [] rfl ⟨true,hF,rfl,rfl⟩
def Vb.c3 (m1:Map) (one1:Int) (two1:Int) (r1:Bool) (x7:(List BA)) (x8:(List Point)) (x9:Map):W Bool:=W.req (r1=true→0≤(Int.tmod (w64 one1) (x7.length:Int))∧(Int.tmod (w64 one1) (x7.length:Int))<(x8.length:Int)) (W.req (r1=true→0≤(Int.tmod (w64 two1) (x7.length:Int))∧(Int.tmod (w64 two1) (x7.length:Int))<(x8.length:Int)) (W.bind (W.ite r1 (wt.F m1 (⟨(rd zPoint x8 (Int.tmod (w64 one1) (x7.length:Int))),(rd zPoint x8 (Int.tmod (w64 two1) (x7.length:Int)))⟩:Segment)) (W.ret false)) (fun r11=>W.bind (W.ite r1 (Jq.F x9) (W.ret ([]:List Violation))) (fun r12=>W.ret (r1&&(r11==((r12.length:Int)==(0:Int))))))))
def Vb.c4 (i9:Int) (A1:Int→W Bool):W Bool:=A1 (w64 (i9+(1:Int)))
def Vb.l2 (m1:Map) (id1:BA) (r1:Bool) (i9:Int) (K4:W Bool) (A2:Int→W Bool) (k18:Int):W Bool:=W.req (0≤i9∧i9<(m1.Objects.length:Int)) (W.ite (decide (k18<(((rd zObject m1.Objects i9).Refs).length:Int))) (W.req (0≤i9∧i9<(m1.Objects.length:Int)) (W.req (0≤k18∧k18<(((rd zObject m1.Objects i9).Refs).length:Int)) (W.ite (sEq (rd (⟨#[]⟩:BA) ((rd zObject m1.Objects i9).Refs) k18) id1) (W.ret r1) (A2 (w64 (k18+(1:Int))))))) (K4))
def Vb.l1 (m1:Map) (id1:BA) (r1:Bool) (K3:W Bool) (A1:Int→W Bool) (i9:Int):W Bool:=W.ite (decide (i9<(m1.Objects.length:Int))) (W.ex fun n=>W.iter1 (Vb.l2 m1 id1 r1 i9 (Vb.c4 i9 A1)) n (0:Int)) (K3)
def Vb.c2 (m1:Map) (one1:Int) (two1:Int) (id1:BA) (r1:Bool) (x7:(List BA)) (x8:(List Point)) (x9:Map) (e1:Int):W Bool:=W.req ((!(e1 != (0:Int)))=true→0≤(Int.tmod (w64 one1) (x7.length:Int))∧(Int.tmod (w64 one1) (x7.length:Int))<(x7.length:Int)) (W.req ((!(e1 != (0:Int)))=true→0≤(Int.tmod (w64 two1) (x7.length:Int))∧(Int.tmod (w64 two1) (x7.length:Int))<(x7.length:Int)) (W.ite ((e1 != (0:Int))||(sEq (rd (⟨#[]⟩:BA) x7 (Int.tmod (w64 one1) (x7.length:Int))) (rd (⟨#[]⟩:BA) x7 (Int.tmod (w64 two1) (x7.length:Int))))) (W.ret r1) (W.ex fun n=>W.iter1 (Vb.l1 m1 id1 r1 (Vb.c3 m1 one1 two1 r1 x7 x8 x9)) n (0:Int))))
def Vb.c1 (m1:Map) (one1:Int) (two1:Int) (id1:BA) (r1:Bool) (x7:(List BA)) (x8:(List Point)):W Bool:=W.ite ((x7.length:Int)==(0:Int)) (W.ret r1) (W.req ((x7.length:Int)≠0) (W.req ((x7.length:Int)≠0) (W.req (0≤(Int.tmod (w64 one1) (x7.length:Int))∧(Int.tmod (w64 one1) (x7.length:Int))<(x7.length:Int)) (W.req (0≤(Int.tmod (w64 two1) (x7.length:Int))∧(Int.tmod (w64 two1) (x7.length:Int))<(x7.length:Int)) (W.bind (qi.F id1 ([(rd (⟨#[]⟩:BA) x7 (Int.tmod (w64 one1) (x7.length:Int))),(rd (⟨#[]⟩:BA) x7 (Int.tmod (w64 two1) (x7.length:Int)))]:List BA)) (fun r13=>W.bind (zo.F m1 r13) (fun r14=>(Vb.c2 m1 one1 two1 id1 r1 x7 x8) r14.1 r14.2)))))))
def Vb.l3 (m1:Map) (r6:(List Jr)) (K1:(List BA)→(List Point)→W Bool) (A3:(List BA)→(List Point)→Int→W Bool) (x14:(List BA)) (x15:(List Point)) (i12:Int):W Bool:=W.ite (decide (i12<(r6.length:Int))) (W.req (0≤i12∧i12<(r6.length:Int)) (W.req ((x14.length+([(rd Je r6 i12).A,(rd Je r6 i12).B]:List BA).length)*16≤140737488355328∧x14.length+([(rd Je r6 i12).A,(rd Je r6 i12).B]:List BA).length≤140737488355328) (W.req (0≤i12∧i12<(r6.length:Int)) (W.req ((x15.length+([(rd Je r6 i12).P,(rd Je r6 i12).Q]:List Point).length)*16≤140737488355328∧x15.length+([(rd Je r6 i12).P,(rd Je r6 i12).Q]:List Point).length≤140737488355328) (W.req (0≤i12∧i12<(r6.length:Int)) (W.bind (wt.F m1 (⟨(rd Je r6 i12).P,(rd Je r6 i12).Q⟩:Segment)) (fun r17=>W.ite (!r17) (W.ret false) (A3 (x14++([(rd Je r6 i12).A,(rd Je r6 i12).B]:List BA)) (x15++([(rd Je r6 i12).P,(rd Je r6 i12).Q]:List Point)) (w64 (i12+(1:Int))))))))))) (K1 x14 x15)
def Vb.F (m1:Map) (one1:Int) (two1:Int) (id1:BA):W Bool:=W.bind (yk.F) (fun r1=>W.bind (Vn.F m1 (24:Int)) (fun r2=>W.bind (W.ite (!(!r2)) (qj.F m1) (W.ret false)) (fun r3=>W.bind (W.ite (!((!r2)||(!r3))) (Jq.F m1) (W.ret ([]:List Violation))) (fun r4=>W.bind (W.ite (!((((!r2)||(!r3))||(decide ((0:Int)<(r4.length:Int))))||(decide ((24:Int)<(id1.size:Int))))) (ja4.F m1 id1) (W.ret (0:Int))) (fun r5=>W.ite (((((!r2)||(!r3))||(decide ((0:Int)<(r4.length:Int))))||(decide ((24:Int)<(id1.size:Int))))||(decide ((0:Int)≤r5))) (W.ret r1) (W.bind (Vf.F m1) (fun r6=>W.ex fun n=>W.iter3 (Vb.l3 m1 r6 (Vb.c1 m1 one1 two1 id1 r1)) n ([]:List BA) ([]:List Point) (0:Int))))))))
theorem Vb.ok {m1:Map} {one1:Int} {two1:Int} {id1:BA} {Q:Bool→Prop} (hF:Vb.F m1 one1 two1 id1 Q):Con Tryz.prog 9 [.tv kMap m1,.tv (kInt .u8) one1,.tv (kInt .u8) two1,.tv kStr id1] [] (fun ta rs'=>∃ (r:Bool),Q r∧ta=.tv kBool r∧rs'=[]):=by
 refine Con.i Tryz.func9 Tryz.ntmps9 R R (fun C=>?_)
 unfold Vb.F at hF
 refine At.seq (At.region (At.f R (jy R R R (ja R)) ?_))
 rintro _ _ ⟨g1,rfl,rfl⟩
 refine At.d R R R R (jd (x:=(.tv kBool false)) (jl _)) ?_
 refine At.done (At.vl (At.seq (At.region ?_)))
 replace hF:=W.vq hF
 refine At.f R (jn R R jp (jq R en_10 jg) (yk.ok hF) (by rintro _ _ ⟨r,_,rfl,_⟩;exact vp)) ?_
 rintro _ _ ⟨_,_,⟨r1,hF,rfl,rfl⟩,rfl,rfl⟩
 refine At.d R R R R (jd (x:=(.tv kBool r1)) (ja R)) ?_
 refine At.done (At.vl (At.seq (At.seq (At.region (At.d R R R R (jc (ja R) 0 R (Sub.self kMap) ty_24) ?_)))))
 replace hF:=W.vq hF
 refine At.f R (jn R R jp (jq R en_11 (jf (ja R) (jf (ji _ _) jg))) (Vn.ok hF) (by rintro _ _ ⟨r,_,rfl,_⟩;exact vp)) ?_
 rintro _ _ ⟨_,_,⟨r2,hF,rfl,rfl⟩,rfl,rfl⟩
 refine At.d R R R R (ve (ja R)) ?_
 refine At.d R R R R (jb (x:=(.tv kBool (!r2))) (ja R)) ?_
 refine At.vn R R R R (jx R) R (fun hg1=>(jc (ja R) 0 R (Sub.self kMap) ty_24)) ?_
 replace hF:=W.vq hF
 refine At.effG R R R R (jx R) hF (fun r=>.tv kBool r) (fun hg2 hF=>vr (jn R R jp (jq R en_20 (jf (jh R hg2) jg)) (qj.ok hF) (by rintro _ _ ⟨r,_,rfl,_⟩;exact vp)) (by rintro _ _ ⟨_,_,⟨r,hF,rfl,rfl⟩,rfl,rfl⟩;exact ⟨r,hF,R,R⟩)) (fun r3 hF=>?_)
 refine At.vn R R R R (jx R) R (fun hg3=>(ve (jh R hg3))) ?_
 refine At.d R R R R (jm (ja R) (jl _) (ja R) vi) ?_
 refine At.d R R R R (jb (x:=(.tv kBool ((!r2)||(!r3)))) (ja R)) ?_
 refine At.vn R R R R (jx R) R (fun hg4=>(jc (ja R) 0 R (Sub.self kMap) ty_24)) ?_
 replace hF:=W.vq hF
 refine At.effG R R R R (jx R) hF (fun r=>.tv (kSlice kViolation) r) (fun hg5 hF=>eff_own1 R R (vr (jo R R (jq R en_16 (jf (jh R hg5) jg)) [] R (Jq.ok hF)) (by rintro _ _ ⟨_,_,⟨r,u,hF,rfl,rfl⟩,rfl,rfl⟩;exact ⟨r,u,hF,R,R⟩))) (fun r4 hF=>?_)
 refine At.vn R R R R (jx R) R (fun hg6=>(jt (jh R hg6) Tryz.underlying33)) ?_
 refine At.vn R R R R (jx R) R (fun hg7=>(jk (jh R hg7) (ji _ _) bin_gtr)) ?_
 refine At.d R R R R (jm (ja R) (jl _) (ja R) vi) ?_
 refine At.d R R R R (jb (x:=(.tv kBool (((!r2)||(!r3))||(decide ((0:Int)<(r4.length:Int)))))) (ja R)) ?_
 refine At.vn R R R R (jx R) R (fun hg8=>(jb (x:=(.tv kStr id1)) (ja R))) ?_
 refine At.vn R R R R (jx R) R (fun hg9=>(does_len_str (jh R hg9) Tryz.underlying9)) ?_
 refine At.vn R R R R (jx R) R (fun hg10=>(jk (jh R hg10) (ji _ _) bin_gtr)) ?_
 refine At.d R R R R (jm (ja R) (jl _) (ja R) vi) ?_
 refine At.d R R R R (jb (x:=(.tv kBool ((((!r2)||(!r3))||(decide ((0:Int)<(r4.length:Int))))||(decide ((24:Int)<(id1.size:Int)))))) (ja R)) ?_
 refine At.vn R R R R (jx R) R (fun hg11=>(jc (ja R) 0 R (Sub.self kMap) ty_24)) ?_
 refine At.vn R R R R (jx R) R (fun hg12=>(jb (x:=(.tv kStr id1)) (ja R))) ?_
 replace hF:=W.vq hF
 refine At.effG R R R R (jx R) hF (fun r=>.tv (kInt .i64) r) (fun hg13 hF=>vr (jn R R jp (jq R en_25 (jf (jh R hg13) (jf (jh R hg13) jg))) (ja4.ok hF) (by rintro _ _ ⟨r,_,rfl,_⟩;exact flat_int)) (by rintro _ _ ⟨_,_,⟨r,hF,rfl,rfl⟩,rfl,rfl⟩;exact ⟨r,hF,R,R⟩)) (fun r5 hF=>?_)
 refine At.vn R R R R (jx R) R (fun hg14=>(jk (jh R hg14) (ji _ _) bin_geq)) ?_
 refine At.d R R R R (jm (ja R) (jl _) (ja R) vi) ?_
 refine At.done (At.vl ?_)
 refine At.cond (ja R) (fun hb1=>?_) (fun hb1=>?_)
 ·replace hF:=W.ite_t hb1 hF
  refine At.seq (At.region (At.d R R R R (jb (x:=(.tv kBool r1)) (ja R)) ?_))
  refine At.d R R R R (jd (x:=(.tv kBool r1)) (ja R)) ?_
  refine At.done (At.vl (At.ret (At.vm ?_)))
  exact At.j rfl (rv_tmp rfl) [] rfl ⟨r1,hF,rfl,rfl⟩
 ·replace hF:=W.ite_f hb1 hF
  refine At.skip (At.vl (At.seq (At.region (At.d R R R R (jc (ja R) 0 R (Sub.self kMap) ty_24) ?_))))
  replace hF:=W.vq hF
  refine At.f R (jo R R (jq R en_22 (jf (ja R) jg)) [] R (Vf.ok hF)) ?_
  rintro _ _ ⟨_,_,⟨r6,v1,hF,rfl,rfl⟩,rfl,rfl⟩
  refine At.d R R R R (jd (x:=(.eq v1)) (ja R)) ?_
  refine At.done (At.vl (At.seq (At.region (At.d R R R R (jd (x:=(.eq (.slice none 0 0))) (opd_eq _)) ?_))))
  refine At.done (At.vl (At.seq (At.region (At.d R R R R (jd (x:=(.eq (.slice none 0 0))) (opd_eq _)) ?_))))
  refine At.done (At.vl ?_)
  refine At.cut (fun rs L=>∃ (x7:(List BA)) (v24:Value) (x8:(List Point)) (v25:Value),Vb.c1 m1 one1 two1 id1 r1 x7 x8 Q∧rs=[.box g1 24 kMap m1,.row v24 9 kStr x7,.row v25 37 kPoint x8]∧L=mkL [(1,(.tv (kInt .u8) one1)),(2,(.tv (kInt .u8) two1)),(3,(.tv kStr id1)),(4,(.eq (.pointer (some ⟨g1,0,none⟩)))),(9,(.tv kBool r1)),(11,(.eq v24)),(12,(.eq v25))]) ?_ ?_
  ·refine At.seq (At.region (At.d R R R R (jd (x:=(.tv (kInt .i64) (0:Int))) (ji _ _)) ?_))
   refine At.done (At.vl (At.block ?_))
   refine At.nilrow 9 kStr ?_
   refine At.nilrow 37 kPoint ?_
   obtain ⟨n3,hF⟩:=hF
   refine At.w [3,2,1,0] R [(1,(.tv (kInt .u8) one1)),(2,(.tv (kInt .u8) two1)),(3,(.tv kStr id1)),(4,(.eq (.pointer (some ⟨g1,0,none⟩)))),(9,(.tv kBool r1)),(10,(.eq v1)),(11,(.eq (.slice none 0 0))),(12,(.eq (.slice none 0 0))),(13,(.tv (kInt .i64) (0:Int)))] ⟨R,R,R,R,R,R,R,R,R,trivial⟩ ?_
   refine At.loop (fun m rs L=>∃ (x14:(List BA)) (v52:Value) (x15:(List Point)) (v53:Value) (i12:Int),W.iter3 (Vb.l3 m1 r6 (Vb.c1 m1 one1 two1 id1 r1)) m x14 x15 i12 Q∧rs=[.box g1 24 kMap m1,.row v1 49 Vk r6,.row v52 9 kStr x14,.row v53 37 kPoint x15]∧L=mkL [(1,(.tv (kInt .u8) one1)),(2,(.tv (kInt .u8) two1)),(3,(.tv kStr id1)),(4,(.eq (.pointer (some ⟨g1,0,none⟩)))),(9,(.tv kBool r1)),(10,(.eq v1)),(11,(.eq v52)),(12,(.eq v53)),(13,(.tv (kInt .i64) i12))]) ?_ ?_ (m:=n3) ⟨([]:List BA),(.slice none 0 0),([]:List Point),(.slice none 0 0),(0:Int),hF,R,R⟩
   ·rintro rs L ⟨_,_,_,_,_,hF,_,_⟩;exact hF
   ·rintro m4 _ _ ⟨x14,v52,x15,v53,i12,hF,rfl,rfl⟩
    replace hF:=W.iter3_s hF
    unfold Vb.l3 at hF
    refine At.seq (At.seq (At.region (At.d R R R R (jb (x:=(.tv (kInt .i64) i12)) (ja R)) ?_)))
    refine At.d R R R R (jb (x:=(.eq v1)) (ja R)) ?_
    refine At.d R R R R (does_len_row (ja R) 1 R Tryz.underlying45) ?_
    refine At.d R R R R (jk (ja R) (ja R) vg) ?_
    refine At.done (At.vl ?_)
    refine At.cond (ja R) (fun hb43=>?_) (fun hb43=>?_)
    ·replace hF:=W.ite_t hb43 hF
     refine At.skip (At.vl (At.seq (At.block (At.seq ?_))))
     refine At.draw mixed [0,1,2,3] R [[],[],[12],[]] (fun φ w hgd=>?_)
     obtain ⟨hq70,hF⟩:=hF
     obtain ⟨hq71,hF⟩:=hF
     refine AtH.take [0,1,2,3] hgd 0 R R R R (D':=#[Y,N,N,N,N,N,N,N,N,N,N,N,N,N]) (by kernel_rfl) (fun _ _ _ _ h=>h) R (jb (x:=(.eq v52)) (ja R)) ?_
     refine AtH.take [0,1,3] hgd 1 R R R R (D':=#[Y,Y,N,N,N,N,N,N,N,N,N,N,N,N]) (by kernel_rfl) (fun _ _ _ _ h=>h) R (jb (x:=(.eq v1)) (ja R)) ?_
     refine AtH.take [0,1,3] hgd 2 R R R R (D':=#[Y,Y,Y,N,N,N,N,N,N,N,N,N,N,N]) (by kernel_rfl) (fun _ _ _ _ h=>h) R (jb (x:=(.tv (kInt .i64) i12)) (ja R)) ?_
     refine AtH.take [0,1,3] hgd 3 R R R R (D':=#[Y,Y,Y,Y,N,N,N,N,N,N,N,N,N,N]) (by kernel_rfl) (fun _ _ _ _ h=>h) R (does_idx_row (ja R) 1 R (ja R) Tryz.underlying45 ty_49 hq70) ?_
     refine AtH.take [0,1,3] hgd 4 R R R R (D':=#[Y,Y,Y,Y,Y,N,N,N,N,N,N,N,N,N]) (by kernel_rfl) (fun _ _ _ _ h=>h) R (does_field_elem (ja R) fa_49_0) ?_
     refine AtH.take [0,1,3] hgd 5 R R R R (D':=#[Y,Y,Y,Y,Y,Y,N,N,N,N,N,N,N,N]) (by kernel_rfl) (fun _ _ _ _ h=>h) R (Jh (ja R) 1 R i12 0 R Je hq70 wr ty_9) ?_
     refine AtH.take [0,1,3] hgd 6 R R R R (D':=#[Y,Y,Y,Y,Y,Y,Y,N,N,N,N,N,N,N]) (by kernel_rfl) (fun _ _ _ _ h=>h) R (jb (x:=(.eq v1)) (ja R)) ?_
     refine AtH.take [0,1,3] hgd 7 R R R R (D':=#[Y,Y,Y,Y,Y,Y,Y,Y,N,N,N,N,N,N]) (by kernel_rfl) (fun _ _ _ _ h=>h) R (jb (x:=(.tv (kInt .i64) i12)) (ja R)) ?_
     refine AtH.take [0,1,3] hgd 8 R R R R (D':=#[Y,Y,Y,Y,Y,Y,Y,Y,Y,N,N,N,N,N]) (by kernel_rfl) (fun _ _ _ _ h=>h) R (does_idx_row (ja R) 1 R (ja R) Tryz.underlying45 ty_49 hq70) ?_
     refine AtH.take [0,1,3] hgd 9 R R R R (D':=#[Y,Y,Y,Y,Y,Y,Y,Y,Y,Y,N,N,N,N]) (by kernel_rfl) (fun _ _ _ _ h=>h) R (does_field_elem (ja R) fa_49_1) ?_
     refine AtH.take [0,1,3] hgd 10 R R R R (D':=#[Y,Y,Y,Y,Y,Y,Y,Y,Y,Y,Y,N,N,N]) (by kernel_rfl) (fun _ _ _ _ h=>h) R (Jh (ja R) 1 R i12 1 R Je hq70 yg ty_9) ?_
     refine AtH.all1 11 (by kernel_rfl) ?_
     refine AtH.f [(0,0),(1,1),(2,2),(3,3)] R R R R R R (vc R R R (os:=[.tmp 60,.tmp 65]) R sl_41 (xs:=([(rd Je r6 i12).A,(rd Je r6 i12).B]:List BA)) (jf (ja R) (jf (ja R) jg)) R R) (D':=#[Y,Y,Y,Y,Y,Y,Y,Y,Y,Y,Y,Y,N,N]) (by kernel_rfl) (by kernel_rfl) ?_
     rintro _ _ ⟨v56,rfl,rfl⟩
     refine ⟨_,.inr ⟨R,flat_eq⟩,?_⟩
     refine AtH.all1 12 (by kernel_rfl) ?_
     refine AtH.f [(0,1),(1,2),(3,4)] R R R R R R (eff_append_row R R R 3 0 R R (ja R) (ja R) sl_41 hq71) (D':=#[Y,Y,Y,Y,Y,Y,Y,Y,Y,Y,Y,Y,Y,N]) (by kernel_rfl) (by kernel_rfl) ?_
     rintro _ _ ⟨v57,rfl,rfl⟩
     refine ⟨_,.inr ⟨R,flat_eq⟩,?_⟩
     refine AtH.take [0,1,3] hgd 13 R R R R (D':=#[Y,Y,Y,Y,Y,Y,Y,Y,Y,Y,Y,Y,Y,Y]) (by kernel_rfl) (fun _ _ _ _ h=>h) R (jd (x:=(.eq v57)) (ja R)) ?_
     refine AtH.done (by kernel_rfl) ?_
     refine At.vl (At.seq ?_)
     refine At.draw mixed [0,1,2,3,4] R [[],[],[],[],[12]] (fun φ w hgd=>?_)
     obtain ⟨hq72,hF⟩:=hF
     obtain ⟨hq73,hF⟩:=hF
     refine AtH.take [0,1,2,3,4] hgd 0 R R R R (D':=#[Y,N,N,N,N,N,N,N,N,N,N,N,N,N]) (by kernel_rfl) (fun _ _ _ _ h=>h) R (jb (x:=(.eq v53)) (ja R)) ?_
     refine AtH.take [0,1,2,3] hgd 1 R R R R (D':=#[Y,Y,N,N,N,N,N,N,N,N,N,N,N,N]) (by kernel_rfl) (fun _ _ _ _ h=>h) R (jb (x:=(.eq v1)) (ja R)) ?_
     refine AtH.take [0,1,2,3] hgd 2 R R R R (D':=#[Y,Y,Y,N,N,N,N,N,N,N,N,N,N,N]) (by kernel_rfl) (fun _ _ _ _ h=>h) R (jb (x:=(.tv (kInt .i64) i12)) (ja R)) ?_
     refine AtH.take [0,1,2,3] hgd 3 R R R R (D':=#[Y,Y,Y,Y,N,N,N,N,N,N,N,N,N,N]) (by kernel_rfl) (fun _ _ _ _ h=>h) R (does_idx_row (ja R) 2 R (ja R) Tryz.underlying45 ty_49 hq72) ?_
     refine AtH.take [0,1,2,3] hgd 4 R R R R (D':=#[Y,Y,Y,Y,Y,N,N,N,N,N,N,N,N,N]) (by kernel_rfl) (fun _ _ _ _ h=>h) R (does_field_elem (ja R) fa_49_2) ?_
     refine AtH.take [0,1,2,3] hgd 5 R R R R (D':=#[Y,Y,Y,Y,Y,Y,N,N,N,N,N,N,N,N]) (by kernel_rfl) (fun _ _ _ _ h=>h) R (Jh (ja R) 2 R i12 2 R Je hq72 yr ty_37) ?_
     refine AtH.take [0,1,2,3] hgd 6 R R R R (D':=#[Y,Y,Y,Y,Y,Y,Y,N,N,N,N,N,N,N]) (by kernel_rfl) (fun _ _ _ _ h=>h) R (jb (x:=(.eq v1)) (ja R)) ?_
     refine AtH.take [0,1,2,3] hgd 7 R R R R (D':=#[Y,Y,Y,Y,Y,Y,Y,Y,N,N,N,N,N,N]) (by kernel_rfl) (fun _ _ _ _ h=>h) R (jb (x:=(.tv (kInt .i64) i12)) (ja R)) ?_
     refine AtH.take [0,1,2,3] hgd 8 R R R R (D':=#[Y,Y,Y,Y,Y,Y,Y,Y,Y,N,N,N,N,N]) (by kernel_rfl) (fun _ _ _ _ h=>h) R (does_idx_row (ja R) 2 R (ja R) Tryz.underlying45 ty_49 hq72) ?_
     refine AtH.take [0,1,2,3] hgd 9 R R R R (D':=#[Y,Y,Y,Y,Y,Y,Y,Y,Y,Y,N,N,N,N]) (by kernel_rfl) (fun _ _ _ _ h=>h) R (does_field_elem (ja R) fa_49_3) ?_
     refine AtH.take [0,1,2,3] hgd 10 R R R R (D':=#[Y,Y,Y,Y,Y,Y,Y,Y,Y,Y,Y,N,N,N]) (by kernel_rfl) (fun _ _ _ _ h=>h) R (Jh (ja R) 2 R i12 4 R Je hq72 yt ty_37) ?_
     refine AtH.all1 11 (by kernel_rfl) ?_
     refine AtH.f [(0,0),(1,1),(2,2),(3,3),(4,4)] R R R R R R (vc R R R (os:=[.tmp 73,.tmp 78]) R sl_68 (xs:=([(rd Je r6 i12).P,(rd Je r6 i12).Q]:List Point)) (jf (ja R) (jf (ja R) jg)) R R) (D':=#[Y,Y,Y,Y,Y,Y,Y,Y,Y,Y,Y,Y,N,N]) (by kernel_rfl) (by kernel_rfl) ?_
     rintro _ _ ⟨v60,rfl,rfl⟩
     refine ⟨_,.inr ⟨R,flat_eq⟩,?_⟩
     refine AtH.all1 12 (by kernel_rfl) ?_
     refine AtH.f [(0,1),(1,2),(2,3),(3,4)] R R R R R R (eff_append_row R R R 5 0 R R (ja R) (ja R) sl_68 hq73) (D':=#[Y,Y,Y,Y,Y,Y,Y,Y,Y,Y,Y,Y,Y,N]) (by kernel_rfl) (by kernel_rfl) ?_
     rintro _ _ ⟨v61,rfl,rfl⟩
     refine ⟨_,.inr ⟨R,flat_eq⟩,?_⟩
     refine AtH.take [0,1,2,3] hgd 13 R R R R (D':=#[Y,Y,Y,Y,Y,Y,Y,Y,Y,Y,Y,Y,Y,Y]) (by kernel_rfl) (fun _ _ _ _ h=>h) R (jd (x:=(.eq v61)) (ja R)) ?_
     refine AtH.done (by kernel_rfl) ?_
     refine At.vl (At.seq ?_)
     refine At.draw mixed [0,1,2,3,4,5] R [[],[],[],[],[],[]] (fun φ w hgd=>?_)
     obtain ⟨hq74,hF⟩:=hF
     replace hF:=W.vq hF
     refine AtH.take [0,1,2,3,4,5] hgd 0 R R R R (D':=#[Y,N,N,N,N,N,N,N,N,N,N,N,N,N]) (by kernel_rfl) (fun _ _ _ _ h=>h) R (jc (ja R) 2 R (Sub.self kMap) ty_24) ?_
     refine AtH.take [0,1,2,3,4,5] hgd 1 R R R R (D':=#[Y,Y,N,N,N,N,N,N,N,N,N,N,N,N]) (by kernel_rfl) (fun _ _ _ _ h=>h) R (jb (x:=(.eq v1)) (ja R)) ?_
     refine AtH.take [0,1,2,3,4,5] hgd 2 R R R R (D':=#[Y,Y,Y,N,N,N,N,N,N,N,N,N,N,N]) (by kernel_rfl) (fun _ _ _ _ h=>h) R (jb (x:=(.tv (kInt .i64) i12)) (ja R)) ?_
     refine AtH.take [0,1,2,3,4,5] hgd 3 R R R R (D':=#[Y,Y,Y,Y,N,N,N,N,N,N,N,N,N,N]) (by kernel_rfl) (fun _ _ _ _ h=>h) R (does_idx_row (ja R) 3 R (ja R) Tryz.underlying45 ty_49 hq74) ?_
     refine AtH.take [0,1,2,3,4,5] hgd 4 R R R R (D':=#[Y,Y,Y,Y,Y,N,N,N,N,N,N,N,N,N]) (by kernel_rfl) (fun _ _ _ _ h=>h) R (does_field_elem (ja R) fa_49_2) ?_
     refine AtH.take [0,1,2,3,4,5] hgd 5 R R R R (D':=#[Y,Y,Y,Y,Y,Y,N,N,N,N,N,N,N,N]) (by kernel_rfl) (fun _ _ _ _ h=>h) R (Jh (ja R) 3 R i12 2 R Je hq74 yr ty_37) ?_
     refine AtH.take [0,1,2,3,4,5] hgd 6 R R R R (D':=#[Y,Y,Y,Y,Y,Y,Y,N,N,N,N,N,N,N]) (by kernel_rfl) (fun _ _ _ _ h=>h) R (jb (x:=(.eq v1)) (ja R)) ?_
     refine AtH.take [0,1,2,3,4,5] hgd 7 R R R R (D':=#[Y,Y,Y,Y,Y,Y,Y,Y,N,N,N,N,N,N]) (by kernel_rfl) (fun _ _ _ _ h=>h) R (jb (x:=(.tv (kInt .i64) i12)) (ja R)) ?_
     refine AtH.take [0,1,2,3,4,5] hgd 8 R R R R (D':=#[Y,Y,Y,Y,Y,Y,Y,Y,Y,N,N,N,N,N]) (by kernel_rfl) (fun _ _ _ _ h=>h) R (does_idx_row (ja R) 3 R (ja R) Tryz.underlying45 ty_49 hq74) ?_
     refine AtH.take [0,1,2,3,4,5] hgd 9 R R R R (D':=#[Y,Y,Y,Y,Y,Y,Y,Y,Y,Y,N,N,N,N]) (by kernel_rfl) (fun _ _ _ _ h=>h) R (does_field_elem (ja R) fa_49_3) ?_
     refine AtH.take [0,1,2,3,4,5] hgd 10 R R R R (D':=#[Y,Y,Y,Y,Y,Y,Y,Y,Y,Y,Y,N,N,N]) (by kernel_rfl) (fun _ _ _ _ h=>h) R (Jh (ja R) 3 R i12 4 R Je hq74 yt ty_37) ?_
     refine AtH.take [0,1,2,3,4,5] hgd 11 R R R R (D':=#[Y,Y,Y,Y,Y,Y,Y,Y,Y,Y,Y,Y,N,N]) (by kernel_rfl) (fun _ _ _ _ h=>h) R (vd (jr (ja R) (jr (ja R) js)) zr_39 bd_39 R (fills_cons R Jf (fills_cons R Jg fills_nil))) ?_
     refine AtH.all1 12 (by kernel_rfl) ?_
     refine AtH.f [(0,0),(1,1),(2,2),(3,3),(4,4),(5,5)] R R R R R R (jn R R jp (jq R en_18 (jf (ja R) (jf (ja R) jg))) (wt.ok hF) (by rintro _ _ ⟨r,_,rfl,_⟩;exact vp)) (D':=#[Y,Y,Y,Y,Y,Y,Y,Y,Y,Y,Y,Y,Y,N]) (by kernel_rfl) (by kernel_rfl) ?_
     rintro _ _ ⟨_,_,⟨r17,hF,rfl,rfl⟩,rfl,rfl⟩
     refine ⟨_,.inr ⟨R,vp⟩,?_⟩
     refine AtH.take [0,1,2,3,4,5] hgd 13 R R R R (D':=#[Y,Y,Y,Y,Y,Y,Y,Y,Y,Y,Y,Y,Y,Y]) (by kernel_rfl) (fun _ _ _ _ h=>h) R (ve (ja R)) ?_
     refine AtH.done (by kernel_rfl) ?_
     refine At.vl ?_
     refine At.cond (ja R) (fun hb44=>?_) (fun hb44=>?_)
     ·replace hF:=W.ite_t hb44 hF
      refine At.seq (At.region (At.d R R R R (jd (x:=(.tv kBool false)) (jl _)) ?_))
      refine At.done (At.vl (At.ret ?_))
      refine At.q ?_
      refine At.vm (At.vm ?_)
      refine At.q ?_
      refine At.vm ?_
      exact At.j rfl (rv_tmp rfl) [] rfl ⟨false,hF,rfl,rfl⟩
     ·replace hF:=W.ite_f hb44 hF
      refine At.skip ?_
      refine At.n ?_
      refine At.vl (At.region (At.d R R R R (jb (x:=(.tv (kInt .i64) i12)) (ja R)) ?_))
      refine At.d R R R R (jk (ja R) (ji _ _) vf) ?_
      refine At.d R R R R (jd (x:=(.tv (kInt .i64) (w64 (i12+(1:Int))))) (ja R)) ?_
      refine At.done (At.vl ?_)
      refine At.w [2,3,4,5] R [(1,(.tv (kInt .u8) one1)),(2,(.tv (kInt .u8) two1)),(3,(.tv kStr id1)),(4,(.eq (.pointer (some ⟨g1,0,none⟩)))),(9,(.tv kBool r1)),(10,(.eq v1)),(11,(.eq v57)),(12,(.eq v61)),(13,(.tv (kInt .i64) (w64 (i12+(1:Int)))))] ⟨R,R,R,R,R,R,R,R,R,trivial⟩ (At.r ⟨(x14++([(rd Je r6 i12).A,(rd Je r6 i12).B]:List BA)),v57,(x15++([(rd Je r6 i12).P,(rd Je r6 i12).Q]:List Point)),v61,(w64 (i12+(1:Int))),hF,R,R⟩)
    ·replace hF:=W.ite_f hb43 hF
     refine At.exit ?_
     refine At.x (At.x ?_)
     refine At.h ?_
     refine At.vl ?_
     refine At.w [0,2,3] R [(1,(.tv (kInt .u8) one1)),(2,(.tv (kInt .u8) two1)),(3,(.tv kStr id1)),(4,(.eq (.pointer (some ⟨g1,0,none⟩)))),(9,(.tv kBool r1)),(11,(.eq v52)),(12,(.eq v53))] ⟨R,R,R,R,R,R,R,trivial⟩ (At.r ⟨x14,v52,x15,v53,hF,R,R⟩)
  ·rintro _ _ ⟨x7,v24,x8,v25,hF,rfl,rfl⟩
   unfold Vb.c1 at hF
   refine At.seq (At.seq (At.region (At.d R R R R (jb (x:=(.eq v24)) (ja R)) ?_)))
   refine At.d R R R R (does_len_row (ja R) 1 R Tryz.underlying41) ?_
   refine At.d R R R R (jk (ja R) (ji _ _) bin_eql) ?_
   refine At.done (At.vl ?_)
   refine At.cond (ja R) (fun hb6=>?_) (fun hb6=>?_)
   ·replace hF:=W.ite_t hb6 hF
    refine At.seq (At.region (At.d R R R R (jb (x:=(.tv kBool r1)) (ja R)) ?_))
    refine At.d R R R R (jd (x:=(.tv kBool r1)) (ja R)) ?_
    refine At.done (At.vl (At.ret (At.vm ?_)))
    exact At.j rfl (rv_tmp rfl) [] rfl ⟨r1,hF,rfl,rfl⟩
   ·replace hF:=W.ite_f hb6 hF
    refine At.skip (At.vl (At.seq (At.region (At.d R R R R (jb (x:=(.tv (kInt .u8) one1)) (ja R)) ?_))))
    refine At.d R R R R (does_conv_int (ja R) (by kernel_rfl) Tryz.underlying3) ?_
    refine At.d R R R R (jb (x:=(.eq v24)) (ja R)) ?_
    refine At.d R R R R (does_len_row (ja R) 1 R Tryz.underlying41) ?_
    obtain ⟨hq11,hF⟩:=hF
    refine At.d R R R R (jk (ja R) (ja R) (bin_rem hq11)) ?_
    refine At.d R R R R (jd (x:=(.tv (kInt .i64) (Int.tmod (w64 one1) (x7.length:Int)))) (ja R)) ?_
    refine At.done (At.vl (At.seq (At.region (At.d R R R R (jb (x:=(.tv (kInt .u8) two1)) (ja R)) ?_))))
    refine At.d R R R R (does_conv_int (ja R) (by kernel_rfl) Tryz.underlying3) ?_
    refine At.d R R R R (jb (x:=(.eq v24)) (ja R)) ?_
    refine At.d R R R R (does_len_row (ja R) 1 R Tryz.underlying41) ?_
    obtain ⟨hq12,hF⟩:=hF
    refine At.d R R R R (jk (ja R) (ja R) (bin_rem hq12)) ?_
    refine At.d R R R R (jd (x:=(.tv (kInt .i64) (Int.tmod (w64 two1) (x7.length:Int)))) (ja R)) ?_
    refine At.done (At.vl ?_)
    refine At.cut (fun rs L=>∃ (x9:Map) (g12:Nat) (e1:Int),Vb.c2 m1 one1 two1 id1 r1 x7 x8 x9 e1 Q∧rs=[.box g1 24 kMap m1,.row v24 9 kStr x7,.row v25 37 kPoint x8,.box g12 24 kMap x9]∧L=mkL [(3,(.tv kStr id1)),(4,(.eq (.pointer (some ⟨g1,0,none⟩)))),(9,(.tv kBool r1)),(11,(.eq v24)),(12,(.eq v25)),(14,(.tv (kInt .i64) (Int.tmod (w64 one1) (x7.length:Int)))),(15,(.tv (kInt .i64) (Int.tmod (w64 two1) (x7.length:Int)))),(16,(.eq (.pointer (some ⟨g12,0,none⟩)))),(17,(.tv (kInt .i64) e1))]) ?_ ?_
    ·refine At.draw mixed [0,1,2] R [[],[],[]] (fun φ w hgd=>?_)
     obtain ⟨hq58,hF⟩:=hF
     obtain ⟨hq59,hF⟩:=hF
     replace hF:=W.vq hF
     refine AtH.take [0,1,2] hgd 0 R R R R (D':=#[Y,N,N,N,N,N,N,N,N,N,N,N,N,N,N,N,N,N,N]) (by kernel_rfl) (fun _ _ _ _ h=>h) R (jc (ja R) 0 R (Sub.self kMap) ty_24) ?_
     refine AtH.take [0,1,2] hgd 1 R R R R (D':=#[Y,Y,N,N,N,N,N,N,N,N,N,N,N,N,N,N,N,N,N]) (by kernel_rfl) (fun _ _ _ _ h=>h) R (jb (x:=(.tv kStr id1)) (ja R)) ?_
     refine AtH.take [0,1,2] hgd 2 R R R R (D':=#[Y,Y,Y,N,N,N,N,N,N,N,N,N,N,N,N,N,N,N,N]) (by kernel_rfl) (fun _ _ _ _ h=>h) R (jb (x:=(.eq v24)) (ja R)) ?_
     refine AtH.take [0,1,2] hgd 3 R R R R (D':=#[Y,Y,Y,Y,N,N,N,N,N,N,N,N,N,N,N,N,N,N,N]) (by kernel_rfl) (fun _ _ _ _ h=>h) R (jb (x:=(.tv (kInt .i64) (Int.tmod (w64 one1) (x7.length:Int)))) (ja R)) ?_
     refine AtH.take [0,1,2] hgd 4 R R R R (D':=#[Y,Y,Y,Y,Y,N,N,N,N,N,N,N,N,N,N,N,N,N,N]) (by kernel_rfl) (fun _ _ _ _ h=>h) R (does_idx_row (ja R) 1 R (ja R) Tryz.underlying41 ty_9 hq58) ?_
     refine AtH.take [0,1,2] hgd 5 R R R R (D':=#[Y,Y,Y,Y,Y,Y,N,N,N,N,N,N,N,N,N,N,N,N,N]) (by kernel_rfl) (fun _ _ _ _ h=>h) R (Jh (ja R) 1 R (Int.tmod (w64 one1) (x7.length:Int)) 0 R (⟨#[]⟩:BA) hq58 (Sub.self kStr) ty_9) ?_
     refine AtH.take [0,1,2] hgd 6 R R R R (D':=#[Y,Y,Y,Y,Y,Y,Y,N,N,N,N,N,N,N,N,N,N,N,N]) (by kernel_rfl) (fun _ _ _ _ h=>h) R (jb (x:=(.eq v24)) (ja R)) ?_
     refine AtH.take [0,1,2] hgd 7 R R R R (D':=#[Y,Y,Y,Y,Y,Y,Y,Y,N,N,N,N,N,N,N,N,N,N,N]) (by kernel_rfl) (fun _ _ _ _ h=>h) R (jb (x:=(.tv (kInt .i64) (Int.tmod (w64 two1) (x7.length:Int)))) (ja R)) ?_
     refine AtH.take [0,1,2] hgd 8 R R R R (D':=#[Y,Y,Y,Y,Y,Y,Y,Y,Y,N,N,N,N,N,N,N,N,N,N]) (by kernel_rfl) (fun _ _ _ _ h=>h) R (does_idx_row (ja R) 1 R (ja R) Tryz.underlying41 ty_9 hq59) ?_
     refine AtH.take [0,1,2] hgd 9 R R R R (D':=#[Y,Y,Y,Y,Y,Y,Y,Y,Y,Y,N,N,N,N,N,N,N,N,N]) (by kernel_rfl) (fun _ _ _ _ h=>h) R (Jh (ja R) 1 R (Int.tmod (w64 two1) (x7.length:Int)) 0 R (⟨#[]⟩:BA) hq59 (Sub.self kStr) ty_9) ?_
     refine AtH.all2 10 16 (by kernel_rfl) ?_ ?_
     ·refine AtH.f [(0,0),(1,1),(2,2)] R R R R R R (vc R R R (os:=[.tmp 115,.tmp 119]) R sl_41 (xs:=([(rd (⟨#[]⟩:BA) x7 (Int.tmod (w64 one1) (x7.length:Int))),(rd (⟨#[]⟩:BA) x7 (Int.tmod (w64 two1) (x7.length:Int)))]:List BA)) (jf (ja R) (jf (ja R) jg)) R R) (D':=#[Y,Y,Y,Y,Y,Y,Y,Y,Y,Y,Y,N,N,N,N,N,N,N,N]) (by kernel_rfl) (by kernel_rfl) ?_
      rintro _ _ ⟨v30,rfl,rfl⟩
      refine ⟨_,.inr ⟨R,flat_eq⟩,?_⟩
      refine AtH.all2 11 16 (by kernel_rfl) ?_ ?_
      ·refine AtH.freeze 0 120 R R ?_
       refine AtH.f [(0,1),(1,2),(2,3)] R R R R R R (jo R R (jq R en_27 (jf (ja R) (jf (ja R) jg))) [] R (qi.ok hF)) (D':=#[Y,Y,Y,Y,Y,Y,Y,Y,Y,Y,Y,Y,N,N,N,N,N,N,N]) (by kernel_rfl) (by kernel_rfl) ?_
       rintro _ _ ⟨_,_,⟨r13,hF,rfl,rfl⟩,rfl,rfl⟩
       refine ⟨.any,.inl R,?_⟩
       replace hF:=W.vq hF
       refine AtH.all2 12 16 (by kernel_rfl) ?_ ?_
       ·refine AtH.f [(0,1),(1,2),(2,3)] R R R R R R (jo R R (jq R en_26 (jf (ja R) (jf (ja R) jg))) [] R (zo.ok hF)) (D':=#[Y,Y,Y,Y,Y,Y,Y,Y,Y,Y,Y,Y,Y,N,N,N,N,N,N]) (by kernel_rfl) (by kernel_rfl) ?_
        rintro _ _ ⟨_,_,⟨r14,hF,rfl,rfl⟩,rfl,rfl⟩
        refine ⟨.any,.inl R,?_⟩
        refine AtH.all2 13 16 (by kernel_rfl) ?_ ?_
        ·refine AtH.f [(0,1),(1,2),(2,3)] R R R R R R (eff_does R R R (jb (x:=(.tup2 (.tv kMap r14.1) (.tv (kInt .i64) r14.2))) (ja R))) (D':=#[Y,Y,Y,Y,Y,Y,Y,Y,Y,Y,Y,Y,Y,Y,N,N,N,N,N]) (by kernel_rfl) (by kernel_rfl) ?_
         rintro _ _ ⟨rfl,rfl⟩
         refine ⟨.any,.inl R,?_⟩
         refine AtH.all3 14 15 16 (by kernel_rfl) ?_ ?_ ?_
         ·refine AtH.f [(0,1),(1,2),(2,3)] R R R R R R (eff_does R R R (does_extract20 (ja R))) (D':=#[Y,Y,Y,Y,Y,Y,Y,Y,Y,Y,Y,Y,Y,Y,Y,N,N,N,N]) (by kernel_rfl) (by kernel_rfl) ?_
          rintro _ _ ⟨rfl,rfl⟩
          refine ⟨.any,.inl R,?_⟩
          refine AtH.all2 15 16 (by kernel_rfl) ?_ ?_
          ·refine AtH.f [(0,1),(1,2),(2,3)] R R R R R R (eff_does R R R (does_extract21 (ja R))) (D':=#[Y,Y,Y,Y,Y,Y,Y,Y,Y,Y,Y,Y,Y,Y,Y,Y,N,N,N]) (by kernel_rfl) (by kernel_rfl) ?_
           rintro _ _ ⟨rfl,rfl⟩
           refine ⟨.any,.inl R,?_⟩
           refine AtH.all1 16 (by kernel_rfl) ?_
           refine AtH.f [(0,1),(1,2),(2,3)] R R R R R R (eff_alloc R R R tz_24) (D':=#[Y,Y,Y,Y,Y,Y,Y,Y,Y,Y,Y,Y,Y,Y,Y,Y,Y,N,N]) (by kernel_rfl) (by kernel_rfl) ?_
           rintro _ _ ⟨g14,rfl,rfl⟩
           refine ⟨_,.inr ⟨R,flat_eq⟩,?_⟩
           refine AtH.all1 17 (by kernel_rfl) ?_
           refine AtH.eff0 [(0,2),(1,3),(2,4)] R R R R R (jz R R (ja R) 0 R (Sub.self kMap) ty_24 (ja R)) (D':=#[Y,Y,Y,Y,Y,Y,Y,Y,Y,Y,Y,Y,Y,Y,Y,Y,Y,Y,N]) (by kernel_rfl) (by kernel_rfl) ?_
           rintro _ _ ⟨rfl,rfl⟩
           refine AtH.all1 18 (by kernel_rfl) ?_
           refine AtH.f [(0,2),(1,3),(2,4)] R R R R R R (eff_does R R R (jd (x:=(.tv (kInt .i64) r14.2)) (ja R))) (D':=#[Y,Y,Y,Y,Y,Y,Y,Y,Y,Y,Y,Y,Y,Y,Y,Y,Y,Y,Y]) (by kernel_rfl) (by kernel_rfl) ?_
           rintro _ _ ⟨rfl,rfl⟩
           refine ⟨.any,.inl R,?_⟩
           refine AtH.done (by kernel_rfl) ?_
           refine At.vl ?_
           refine At.w [2,3,4,0] R [(3,(.tv kStr id1)),(4,(.eq (.pointer (some ⟨g1,0,none⟩)))),(9,(.tv kBool r1)),(11,(.eq v24)),(12,(.eq v25)),(14,(.tv (kInt .i64) (Int.tmod (w64 one1) (x7.length:Int)))),(15,(.tv (kInt .i64) (Int.tmod (w64 two1) (x7.length:Int)))),(16,(.eq (.pointer (some ⟨g14,0,none⟩)))),(17,(.tv (kInt .i64) r14.2))] ⟨R,R,R,R,R,R,R,R,R,trivial⟩ (At.r ⟨r14.1,g14,r14.2,hF,R,R⟩)
          ·refine AtH.f [(0,1),(1,2),(2,3)] R R R R R R (eff_alloc R R R tz_24) (D':=#[Y,Y,Y,Y,Y,Y,Y,Y,Y,Y,Y,Y,Y,Y,Y,N,Y,N,N]) (by kernel_rfl) (by kernel_rfl) ?_
           rintro _ _ ⟨g15,rfl,rfl⟩
           refine ⟨_,.inr ⟨R,flat_eq⟩,?_⟩
           refine AtH.all2 15 17 (by kernel_rfl) ?_ ?_
           ·refine AtH.f [(0,2),(1,3),(2,4)] R R R R R R (eff_does R R R (does_extract21 (ja R))) (D':=#[Y,Y,Y,Y,Y,Y,Y,Y,Y,Y,Y,Y,Y,Y,Y,Y,Y,N,N]) (by kernel_rfl) (by kernel_rfl) ?_
            rintro _ _ ⟨rfl,rfl⟩
            refine ⟨.any,.inl R,?_⟩
            refine AtH.all1 17 (by kernel_rfl) ?_
            refine AtH.eff0 [(0,2),(1,3),(2,4)] R R R R R (jz R R (ja R) 0 R (Sub.self kMap) ty_24 (ja R)) (D':=#[Y,Y,Y,Y,Y,Y,Y,Y,Y,Y,Y,Y,Y,Y,Y,Y,Y,Y,N]) (by kernel_rfl) (by kernel_rfl) ?_
            rintro _ _ ⟨rfl,rfl⟩
            refine AtH.all1 18 (by kernel_rfl) ?_
            refine AtH.f [(0,2),(1,3),(2,4)] R R R R R R (eff_does R R R (jd (x:=(.tv (kInt .i64) r14.2)) (ja R))) (D':=#[Y,Y,Y,Y,Y,Y,Y,Y,Y,Y,Y,Y,Y,Y,Y,Y,Y,Y,Y]) (by kernel_rfl) (by kernel_rfl) ?_
            rintro _ _ ⟨rfl,rfl⟩
            refine ⟨.any,.inl R,?_⟩
            refine AtH.done (by kernel_rfl) ?_
            refine At.vl ?_
            refine At.w [2,3,4,0] R [(3,(.tv kStr id1)),(4,(.eq (.pointer (some ⟨g1,0,none⟩)))),(9,(.tv kBool r1)),(11,(.eq v24)),(12,(.eq v25)),(14,(.tv (kInt .i64) (Int.tmod (w64 one1) (x7.length:Int)))),(15,(.tv (kInt .i64) (Int.tmod (w64 two1) (x7.length:Int)))),(16,(.eq (.pointer (some ⟨g15,0,none⟩)))),(17,(.tv (kInt .i64) r14.2))] ⟨R,R,R,R,R,R,R,R,R,trivial⟩ (At.r ⟨r14.1,g15,r14.2,hF,R,R⟩)
           ·refine AtH.eff0 [(0,2),(1,3),(2,4)] R R R R R (jz R R (ja R) 0 R (Sub.self kMap) ty_24 (ja R)) (D':=#[Y,Y,Y,Y,Y,Y,Y,Y,Y,Y,Y,Y,Y,Y,Y,N,Y,Y,N]) (by kernel_rfl) (by kernel_rfl) ?_
            rintro _ _ ⟨rfl,rfl⟩
            refine AtH.all1 15 (by kernel_rfl) ?_
            refine AtH.f [(0,2),(1,3),(2,4)] R R R R R R (eff_does R R R (does_extract21 (ja R))) (D':=#[Y,Y,Y,Y,Y,Y,Y,Y,Y,Y,Y,Y,Y,Y,Y,Y,Y,Y,N]) (by kernel_rfl) (by kernel_rfl) ?_
            rintro _ _ ⟨rfl,rfl⟩
            refine ⟨.any,.inl R,?_⟩
            refine AtH.all1 18 (by kernel_rfl) ?_
            refine AtH.f [(0,2),(1,3),(2,4)] R R R R R R (eff_does R R R (jd (x:=(.tv (kInt .i64) r14.2)) (ja R))) (D':=#[Y,Y,Y,Y,Y,Y,Y,Y,Y,Y,Y,Y,Y,Y,Y,Y,Y,Y,Y]) (by kernel_rfl) (by kernel_rfl) ?_
            rintro _ _ ⟨rfl,rfl⟩
            refine ⟨.any,.inl R,?_⟩
            refine AtH.done (by kernel_rfl) ?_
            refine At.vl ?_
            refine At.w [2,3,4,0] R [(3,(.tv kStr id1)),(4,(.eq (.pointer (some ⟨g1,0,none⟩)))),(9,(.tv kBool r1)),(11,(.eq v24)),(12,(.eq v25)),(14,(.tv (kInt .i64) (Int.tmod (w64 one1) (x7.length:Int)))),(15,(.tv (kInt .i64) (Int.tmod (w64 two1) (x7.length:Int)))),(16,(.eq (.pointer (some ⟨g15,0,none⟩)))),(17,(.tv (kInt .i64) r14.2))] ⟨R,R,R,R,R,R,R,R,R,trivial⟩ (At.r ⟨r14.1,g15,r14.2,hF,R,R⟩)
         ·refine AtH.f [(0,1),(1,2),(2,3)] R R R R R R (eff_does R R R (does_extract21 (ja R))) (D':=#[Y,Y,Y,Y,Y,Y,Y,Y,Y,Y,Y,Y,Y,Y,N,Y,N,N,N]) (by kernel_rfl) (by kernel_rfl) ?_
          rintro _ _ ⟨rfl,rfl⟩
          refine ⟨.any,.inl R,?_⟩
          refine AtH.all2 14 16 (by kernel_rfl) ?_ ?_
          ·refine AtH.f [(0,1),(1,2),(2,3)] R R R R R R (eff_does R R R (does_extract20 (ja R))) (D':=#[Y,Y,Y,Y,Y,Y,Y,Y,Y,Y,Y,Y,Y,Y,Y,Y,N,N,N]) (by kernel_rfl) (by kernel_rfl) ?_
           rintro _ _ ⟨rfl,rfl⟩
           refine ⟨.any,.inl R,?_⟩
           refine AtH.all1 16 (by kernel_rfl) ?_
           refine AtH.f [(0,1),(1,2),(2,3)] R R R R R R (eff_alloc R R R tz_24) (D':=#[Y,Y,Y,Y,Y,Y,Y,Y,Y,Y,Y,Y,Y,Y,Y,Y,Y,N,N]) (by kernel_rfl) (by kernel_rfl) ?_
           rintro _ _ ⟨g16,rfl,rfl⟩
           refine ⟨_,.inr ⟨R,flat_eq⟩,?_⟩
           refine AtH.all1 17 (by kernel_rfl) ?_
           refine AtH.eff0 [(0,2),(1,3),(2,4)] R R R R R (jz R R (ja R) 0 R (Sub.self kMap) ty_24 (ja R)) (D':=#[Y,Y,Y,Y,Y,Y,Y,Y,Y,Y,Y,Y,Y,Y,Y,Y,Y,Y,N]) (by kernel_rfl) (by kernel_rfl) ?_
           rintro _ _ ⟨rfl,rfl⟩
           refine AtH.all1 18 (by kernel_rfl) ?_
           refine AtH.f [(0,2),(1,3),(2,4)] R R R R R R (eff_does R R R (jd (x:=(.tv (kInt .i64) r14.2)) (ja R))) (D':=#[Y,Y,Y,Y,Y,Y,Y,Y,Y,Y,Y,Y,Y,Y,Y,Y,Y,Y,Y]) (by kernel_rfl) (by kernel_rfl) ?_
           rintro _ _ ⟨rfl,rfl⟩
           refine ⟨.any,.inl R,?_⟩
           refine AtH.done (by kernel_rfl) ?_
           refine At.vl ?_
           refine At.w [2,3,4,0] R [(3,(.tv kStr id1)),(4,(.eq (.pointer (some ⟨g1,0,none⟩)))),(9,(.tv kBool r1)),(11,(.eq v24)),(12,(.eq v25)),(14,(.tv (kInt .i64) (Int.tmod (w64 one1) (x7.length:Int)))),(15,(.tv (kInt .i64) (Int.tmod (w64 two1) (x7.length:Int)))),(16,(.eq (.pointer (some ⟨g16,0,none⟩)))),(17,(.tv (kInt .i64) r14.2))] ⟨R,R,R,R,R,R,R,R,R,trivial⟩ (At.r ⟨r14.1,g16,r14.2,hF,R,R⟩)
          ·refine AtH.f [(0,1),(1,2),(2,3)] R R R R R R (eff_alloc R R R tz_24) (D':=#[Y,Y,Y,Y,Y,Y,Y,Y,Y,Y,Y,Y,Y,Y,N,Y,Y,N,N]) (by kernel_rfl) (by kernel_rfl) ?_
           rintro _ _ ⟨g17,rfl,rfl⟩
           refine ⟨_,.inr ⟨R,flat_eq⟩,?_⟩
           refine AtH.all1 14 (by kernel_rfl) ?_
           refine AtH.f [(0,2),(1,3),(2,4)] R R R R R R (eff_does R R R (does_extract20 (ja R))) (D':=#[Y,Y,Y,Y,Y,Y,Y,Y,Y,Y,Y,Y,Y,Y,Y,Y,Y,N,N]) (by kernel_rfl) (by kernel_rfl) ?_
           rintro _ _ ⟨rfl,rfl⟩
           refine ⟨.any,.inl R,?_⟩
           refine AtH.all1 17 (by kernel_rfl) ?_
           refine AtH.eff0 [(0,2),(1,3),(2,4)] R R R R R (jz R R (ja R) 0 R (Sub.self kMap) ty_24 (ja R)) (D':=#[Y,Y,Y,Y,Y,Y,Y,Y,Y,Y,Y,Y,Y,Y,Y,Y,Y,Y,N]) (by kernel_rfl) (by kernel_rfl) ?_
           rintro _ _ ⟨rfl,rfl⟩
           refine AtH.all1 18 (by kernel_rfl) ?_
           refine AtH.f [(0,2),(1,3),(2,4)] R R R R R R (eff_does R R R (jd (x:=(.tv (kInt .i64) r14.2)) (ja R))) (D':=#[Y,Y,Y,Y,Y,Y,Y,Y,Y,Y,Y,Y,Y,Y,Y,Y,Y,Y,Y]) (by kernel_rfl) (by kernel_rfl) ?_
           rintro _ _ ⟨rfl,rfl⟩
           refine ⟨.any,.inl R,?_⟩
           refine AtH.done (by kernel_rfl) ?_
           refine At.vl ?_
           refine At.w [2,3,4,0] R [(3,(.tv kStr id1)),(4,(.eq (.pointer (some ⟨g1,0,none⟩)))),(9,(.tv kBool r1)),(11,(.eq v24)),(12,(.eq v25)),(14,(.tv (kInt .i64) (Int.tmod (w64 one1) (x7.length:Int)))),(15,(.tv (kInt .i64) (Int.tmod (w64 two1) (x7.length:Int)))),(16,(.eq (.pointer (some ⟨g17,0,none⟩)))),(17,(.tv (kInt .i64) r14.2))] ⟨R,R,R,R,R,R,R,R,R,trivial⟩ (At.r ⟨r14.1,g17,r14.2,hF,R,R⟩)
         ·refine AtH.f [(0,1),(1,2),(2,3)] R R R R R R (eff_alloc R R R tz_24) (D':=#[Y,Y,Y,Y,Y,Y,Y,Y,Y,Y,Y,Y,Y,Y,N,N,Y,N,N]) (by kernel_rfl) (by kernel_rfl) ?_
          rintro _ _ ⟨g18,rfl,rfl⟩
          refine ⟨_,.inr ⟨R,flat_eq⟩,?_⟩
          refine AtH.all2 14 15 (by kernel_rfl) ?_ ?_
          ·refine AtH.f [(0,2),(1,3),(2,4)] R R R R R R (eff_does R R R (does_extract20 (ja R))) (D':=#[Y,Y,Y,Y,Y,Y,Y,Y,Y,Y,Y,Y,Y,Y,Y,N,Y,N,N]) (by kernel_rfl) (by kernel_rfl) ?_
           rintro _ _ ⟨rfl,rfl⟩
           refine ⟨.any,.inl R,?_⟩
           refine AtH.all2 15 17 (by kernel_rfl) ?_ ?_
           ·refine AtH.f [(0,2),(1,3),(2,4)] R R R R R R (eff_does R R R (does_extract21 (ja R))) (D':=#[Y,Y,Y,Y,Y,Y,Y,Y,Y,Y,Y,Y,Y,Y,Y,Y,Y,N,N]) (by kernel_rfl) (by kernel_rfl) ?_
            rintro _ _ ⟨rfl,rfl⟩
            refine ⟨.any,.inl R,?_⟩
            refine AtH.all1 17 (by kernel_rfl) ?_
            refine AtH.eff0 [(0,2),(1,3),(2,4)] R R R R R (jz R R (ja R) 0 R (Sub.self kMap) ty_24 (ja R)) (D':=#[Y,Y,Y,Y,Y,Y,Y,Y,Y,Y,Y,Y,Y,Y,Y,Y,Y,Y,N]) (by kernel_rfl) (by kernel_rfl) ?_
            rintro _ _ ⟨rfl,rfl⟩
            refine AtH.all1 18 (by kernel_rfl) ?_
            refine AtH.f [(0,2),(1,3),(2,4)] R R R R R R (eff_does R R R (jd (x:=(.tv (kInt .i64) r14.2)) (ja R))) (D':=#[Y,Y,Y,Y,Y,Y,Y,Y,Y,Y,Y,Y,Y,Y,Y,Y,Y,Y,Y]) (by kernel_rfl) (by kernel_rfl) ?_
            rintro _ _ ⟨rfl,rfl⟩
            refine ⟨.any,.inl R,?_⟩
            refine AtH.done (by kernel_rfl) ?_
            refine At.vl ?_
            refine At.w [2,3,4,0] R [(3,(.tv kStr id1)),(4,(.eq (.pointer (some ⟨g1,0,none⟩)))),(9,(.tv kBool r1)),(11,(.eq v24)),(12,(.eq v25)),(14,(.tv (kInt .i64) (Int.tmod (w64 one1) (x7.length:Int)))),(15,(.tv (kInt .i64) (Int.tmod (w64 two1) (x7.length:Int)))),(16,(.eq (.pointer (some ⟨g18,0,none⟩)))),(17,(.tv (kInt .i64) r14.2))] ⟨R,R,R,R,R,R,R,R,R,trivial⟩ (At.r ⟨r14.1,g18,r14.2,hF,R,R⟩)
           ·refine AtH.eff0 [(0,2),(1,3),(2,4)] R R R R R (jz R R (ja R) 0 R (Sub.self kMap) ty_24 (ja R)) (D':=#[Y,Y,Y,Y,Y,Y,Y,Y,Y,Y,Y,Y,Y,Y,Y,N,Y,Y,N]) (by kernel_rfl) (by kernel_rfl) ?_
            rintro _ _ ⟨rfl,rfl⟩
            refine AtH.all1 15 (by kernel_rfl) ?_
            refine AtH.f [(0,2),(1,3),(2,4)] R R R R R R (eff_does R R R (does_extract21 (ja R))) (D':=#[Y,Y,Y,Y,Y,Y,Y,Y,Y,Y,Y,Y,Y,Y,Y,Y,Y,Y,N]) (by kernel_rfl) (by kernel_rfl) ?_
            rintro _ _ ⟨rfl,rfl⟩
            refine ⟨.any,.inl R,?_⟩
            refine AtH.all1 18 (by kernel_rfl) ?_
            refine AtH.f [(0,2),(1,3),(2,4)] R R R R R R (eff_does R R R (jd (x:=(.tv (kInt .i64) r14.2)) (ja R))) (D':=#[Y,Y,Y,Y,Y,Y,Y,Y,Y,Y,Y,Y,Y,Y,Y,Y,Y,Y,Y]) (by kernel_rfl) (by kernel_rfl) ?_
            rintro _ _ ⟨rfl,rfl⟩
            refine ⟨.any,.inl R,?_⟩
            refine AtH.done (by kernel_rfl) ?_
            refine At.vl ?_
            refine At.w [2,3,4,0] R [(3,(.tv kStr id1)),(4,(.eq (.pointer (some ⟨g1,0,none⟩)))),(9,(.tv kBool r1)),(11,(.eq v24)),(12,(.eq v25)),(14,(.tv (kInt .i64) (Int.tmod (w64 one1) (x7.length:Int)))),(15,(.tv (kInt .i64) (Int.tmod (w64 two1) (x7.length:Int)))),(16,(.eq (.pointer (some ⟨g18,0,none⟩)))),(17,(.tv (kInt .i64) r14.2))] ⟨R,R,R,R,R,R,R,R,R,trivial⟩ (At.r ⟨r14.1,g18,r14.2,hF,R,R⟩)
          ·refine AtH.f [(0,2),(1,3),(2,4)] R R R R R R (eff_does R R R (does_extract21 (ja R))) (D':=#[Y,Y,Y,Y,Y,Y,Y,Y,Y,Y,Y,Y,Y,Y,N,Y,Y,N,N]) (by kernel_rfl) (by kernel_rfl) ?_
           rintro _ _ ⟨rfl,rfl⟩
           refine ⟨.any,.inl R,?_⟩
           refine AtH.all1 14 (by kernel_rfl) ?_
           refine AtH.f [(0,2),(1,3),(2,4)] R R R R R R (eff_does R R R (does_extract20 (ja R))) (D':=#[Y,Y,Y,Y,Y,Y,Y,Y,Y,Y,Y,Y,Y,Y,Y,Y,Y,N,N]) (by kernel_rfl) (by kernel_rfl) ?_
           rintro _ _ ⟨rfl,rfl⟩
           refine ⟨.any,.inl R,?_⟩
           refine AtH.all1 17 (by kernel_rfl) ?_
           refine AtH.eff0 [(0,2),(1,3),(2,4)] R R R R R (jz R R (ja R) 0 R (Sub.self kMap) ty_24 (ja R)) (D':=#[Y,Y,Y,Y,Y,Y,Y,Y,Y,Y,Y,Y,Y,Y,Y,Y,Y,Y,N]) (by kernel_rfl) (by kernel_rfl) ?_
           rintro _ _ ⟨rfl,rfl⟩
           refine AtH.all1 18 (by kernel_rfl) ?_
           refine AtH.f [(0,2),(1,3),(2,4)] R R R R R R (eff_does R R R (jd (x:=(.tv (kInt .i64) r14.2)) (ja R))) (D':=#[Y,Y,Y,Y,Y,Y,Y,Y,Y,Y,Y,Y,Y,Y,Y,Y,Y,Y,Y]) (by kernel_rfl) (by kernel_rfl) ?_
           rintro _ _ ⟨rfl,rfl⟩
           refine ⟨.any,.inl R,?_⟩
           refine AtH.done (by kernel_rfl) ?_
           refine At.vl ?_
           refine At.w [2,3,4,0] R [(3,(.tv kStr id1)),(4,(.eq (.pointer (some ⟨g1,0,none⟩)))),(9,(.tv kBool r1)),(11,(.eq v24)),(12,(.eq v25)),(14,(.tv (kInt .i64) (Int.tmod (w64 one1) (x7.length:Int)))),(15,(.tv (kInt .i64) (Int.tmod (w64 two1) (x7.length:Int)))),(16,(.eq (.pointer (some ⟨g18,0,none⟩)))),(17,(.tv (kInt .i64) r14.2))] ⟨R,R,R,R,R,R,R,R,R,trivial⟩ (At.r ⟨r14.1,g18,r14.2,hF,R,R⟩)
        ·refine AtH.f [(0,1),(1,2),(2,3)] R R R R R R (eff_alloc R R R tz_24) (D':=#[Y,Y,Y,Y,Y,Y,Y,Y,Y,Y,Y,Y,Y,N,N,N,Y,N,N]) (by kernel_rfl) (by kernel_rfl) ?_
         rintro _ _ ⟨g19,rfl,rfl⟩
         refine ⟨_,.inr ⟨R,flat_eq⟩,?_⟩
         refine AtH.all1 13 (by kernel_rfl) ?_
         refine AtH.f [(0,2),(1,3),(2,4)] R R R R R R (eff_does R R R (jb (x:=(.tup2 (.tv kMap r14.1) (.tv (kInt .i64) r14.2))) (ja R))) (D':=#[Y,Y,Y,Y,Y,Y,Y,Y,Y,Y,Y,Y,Y,Y,N,N,Y,N,N]) (by kernel_rfl) (by kernel_rfl) ?_
         rintro _ _ ⟨rfl,rfl⟩
         refine ⟨.any,.inl R,?_⟩
         refine AtH.all2 14 15 (by kernel_rfl) ?_ ?_
         ·refine AtH.f [(0,2),(1,3),(2,4)] R R R R R R (eff_does R R R (does_extract20 (ja R))) (D':=#[Y,Y,Y,Y,Y,Y,Y,Y,Y,Y,Y,Y,Y,Y,Y,N,Y,N,N]) (by kernel_rfl) (by kernel_rfl) ?_
          rintro _ _ ⟨rfl,rfl⟩
          refine ⟨.any,.inl R,?_⟩
          refine AtH.all2 15 17 (by kernel_rfl) ?_ ?_
          ·refine AtH.f [(0,2),(1,3),(2,4)] R R R R R R (eff_does R R R (does_extract21 (ja R))) (D':=#[Y,Y,Y,Y,Y,Y,Y,Y,Y,Y,Y,Y,Y,Y,Y,Y,Y,N,N]) (by kernel_rfl) (by kernel_rfl) ?_
           rintro _ _ ⟨rfl,rfl⟩
           refine ⟨.any,.inl R,?_⟩
           refine AtH.all1 17 (by kernel_rfl) ?_
           refine AtH.eff0 [(0,2),(1,3),(2,4)] R R R R R (jz R R (ja R) 0 R (Sub.self kMap) ty_24 (ja R)) (D':=#[Y,Y,Y,Y,Y,Y,Y,Y,Y,Y,Y,Y,Y,Y,Y,Y,Y,Y,N]) (by kernel_rfl) (by kernel_rfl) ?_
           rintro _ _ ⟨rfl,rfl⟩
           refine AtH.all1 18 (by kernel_rfl) ?_
           refine AtH.f [(0,2),(1,3),(2,4)] R R R R R R (eff_does R R R (jd (x:=(.tv (kInt .i64) r14.2)) (ja R))) (D':=#[Y,Y,Y,Y,Y,Y,Y,Y,Y,Y,Y,Y,Y,Y,Y,Y,Y,Y,Y]) (by kernel_rfl) (by kernel_rfl) ?_
           rintro _ _ ⟨rfl,rfl⟩
           refine ⟨.any,.inl R,?_⟩
           refine AtH.done (by kernel_rfl) ?_
           refine At.vl ?_
           refine At.w [2,3,4,0] R [(3,(.tv kStr id1)),(4,(.eq (.pointer (some ⟨g1,0,none⟩)))),(9,(.tv kBool r1)),(11,(.eq v24)),(12,(.eq v25)),(14,(.tv (kInt .i64) (Int.tmod (w64 one1) (x7.length:Int)))),(15,(.tv (kInt .i64) (Int.tmod (w64 two1) (x7.length:Int)))),(16,(.eq (.pointer (some ⟨g19,0,none⟩)))),(17,(.tv (kInt .i64) r14.2))] ⟨R,R,R,R,R,R,R,R,R,trivial⟩ (At.r ⟨r14.1,g19,r14.2,hF,R,R⟩)
          ·refine AtH.eff0 [(0,2),(1,3),(2,4)] R R R R R (jz R R (ja R) 0 R (Sub.self kMap) ty_24 (ja R)) (D':=#[Y,Y,Y,Y,Y,Y,Y,Y,Y,Y,Y,Y,Y,Y,Y,N,Y,Y,N]) (by kernel_rfl) (by kernel_rfl) ?_
           rintro _ _ ⟨rfl,rfl⟩
           refine AtH.all1 15 (by kernel_rfl) ?_
           refine AtH.f [(0,2),(1,3),(2,4)] R R R R R R (eff_does R R R (does_extract21 (ja R))) (D':=#[Y,Y,Y,Y,Y,Y,Y,Y,Y,Y,Y,Y,Y,Y,Y,Y,Y,Y,N]) (by kernel_rfl) (by kernel_rfl) ?_
           rintro _ _ ⟨rfl,rfl⟩
           refine ⟨.any,.inl R,?_⟩
           refine AtH.all1 18 (by kernel_rfl) ?_
           refine AtH.f [(0,2),(1,3),(2,4)] R R R R R R (eff_does R R R (jd (x:=(.tv (kInt .i64) r14.2)) (ja R))) (D':=#[Y,Y,Y,Y,Y,Y,Y,Y,Y,Y,Y,Y,Y,Y,Y,Y,Y,Y,Y]) (by kernel_rfl) (by kernel_rfl) ?_
           rintro _ _ ⟨rfl,rfl⟩
           refine ⟨.any,.inl R,?_⟩
           refine AtH.done (by kernel_rfl) ?_
           refine At.vl ?_
           refine At.w [2,3,4,0] R [(3,(.tv kStr id1)),(4,(.eq (.pointer (some ⟨g1,0,none⟩)))),(9,(.tv kBool r1)),(11,(.eq v24)),(12,(.eq v25)),(14,(.tv (kInt .i64) (Int.tmod (w64 one1) (x7.length:Int)))),(15,(.tv (kInt .i64) (Int.tmod (w64 two1) (x7.length:Int)))),(16,(.eq (.pointer (some ⟨g19,0,none⟩)))),(17,(.tv (kInt .i64) r14.2))] ⟨R,R,R,R,R,R,R,R,R,trivial⟩ (At.r ⟨r14.1,g19,r14.2,hF,R,R⟩)
         ·refine AtH.f [(0,2),(1,3),(2,4)] R R R R R R (eff_does R R R (does_extract21 (ja R))) (D':=#[Y,Y,Y,Y,Y,Y,Y,Y,Y,Y,Y,Y,Y,Y,N,Y,Y,N,N]) (by kernel_rfl) (by kernel_rfl) ?_
          rintro _ _ ⟨rfl,rfl⟩
          refine ⟨.any,.inl R,?_⟩
          refine AtH.all1 14 (by kernel_rfl) ?_
          refine AtH.f [(0,2),(1,3),(2,4)] R R R R R R (eff_does R R R (does_extract20 (ja R))) (D':=#[Y,Y,Y,Y,Y,Y,Y,Y,Y,Y,Y,Y,Y,Y,Y,Y,Y,N,N]) (by kernel_rfl) (by kernel_rfl) ?_
          rintro _ _ ⟨rfl,rfl⟩
          refine ⟨.any,.inl R,?_⟩
          refine AtH.all1 17 (by kernel_rfl) ?_
          refine AtH.eff0 [(0,2),(1,3),(2,4)] R R R R R (jz R R (ja R) 0 R (Sub.self kMap) ty_24 (ja R)) (D':=#[Y,Y,Y,Y,Y,Y,Y,Y,Y,Y,Y,Y,Y,Y,Y,Y,Y,Y,N]) (by kernel_rfl) (by kernel_rfl) ?_
          rintro _ _ ⟨rfl,rfl⟩
          refine AtH.all1 18 (by kernel_rfl) ?_
          refine AtH.f [(0,2),(1,3),(2,4)] R R R R R R (eff_does R R R (jd (x:=(.tv (kInt .i64) r14.2)) (ja R))) (D':=#[Y,Y,Y,Y,Y,Y,Y,Y,Y,Y,Y,Y,Y,Y,Y,Y,Y,Y,Y]) (by kernel_rfl) (by kernel_rfl) ?_
          rintro _ _ ⟨rfl,rfl⟩
          refine ⟨.any,.inl R,?_⟩
          refine AtH.done (by kernel_rfl) ?_
          refine At.vl ?_
          refine At.w [2,3,4,0] R [(3,(.tv kStr id1)),(4,(.eq (.pointer (some ⟨g1,0,none⟩)))),(9,(.tv kBool r1)),(11,(.eq v24)),(12,(.eq v25)),(14,(.tv (kInt .i64) (Int.tmod (w64 one1) (x7.length:Int)))),(15,(.tv (kInt .i64) (Int.tmod (w64 two1) (x7.length:Int)))),(16,(.eq (.pointer (some ⟨g19,0,none⟩)))),(17,(.tv (kInt .i64) r14.2))] ⟨R,R,R,R,R,R,R,R,R,trivial⟩ (At.r ⟨r14.1,g19,r14.2,hF,R,R⟩)
       ·refine AtH.f [(0,1),(1,2),(2,3)] R R R R R R (eff_alloc R R R tz_24) (D':=#[Y,Y,Y,Y,Y,Y,Y,Y,Y,Y,Y,Y,N,N,N,N,Y,N,N]) (by kernel_rfl) (by kernel_rfl) ?_
        rintro _ _ ⟨g20,rfl,rfl⟩
        refine ⟨_,.inr ⟨R,flat_eq⟩,?_⟩
        refine AtH.all1 12 (by kernel_rfl) ?_
        refine AtH.f [(0,2),(1,3),(2,4)] R R R R R R (jo R R (jq R en_26 (jf (ja R) (jf (ja R) jg))) [] R (zo.ok hF)) (D':=#[Y,Y,Y,Y,Y,Y,Y,Y,Y,Y,Y,Y,Y,N,N,N,Y,N,N]) (by kernel_rfl) (by kernel_rfl) ?_
        rintro _ _ ⟨_,_,⟨r14,hF,rfl,rfl⟩,rfl,rfl⟩
        refine ⟨.any,.inl R,?_⟩
        refine AtH.all1 13 (by kernel_rfl) ?_
        refine AtH.f [(0,2),(1,3),(2,4)] R R R R R R (eff_does R R R (jb (x:=(.tup2 (.tv kMap r14.1) (.tv (kInt .i64) r14.2))) (ja R))) (D':=#[Y,Y,Y,Y,Y,Y,Y,Y,Y,Y,Y,Y,Y,Y,N,N,Y,N,N]) (by kernel_rfl) (by kernel_rfl) ?_
        rintro _ _ ⟨rfl,rfl⟩
        refine ⟨.any,.inl R,?_⟩
        refine AtH.all2 14 15 (by kernel_rfl) ?_ ?_
        ·refine AtH.f [(0,2),(1,3),(2,4)] R R R R R R (eff_does R R R (does_extract20 (ja R))) (D':=#[Y,Y,Y,Y,Y,Y,Y,Y,Y,Y,Y,Y,Y,Y,Y,N,Y,N,N]) (by kernel_rfl) (by kernel_rfl) ?_
         rintro _ _ ⟨rfl,rfl⟩
         refine ⟨.any,.inl R,?_⟩
         refine AtH.all2 15 17 (by kernel_rfl) ?_ ?_
         ·refine AtH.f [(0,2),(1,3),(2,4)] R R R R R R (eff_does R R R (does_extract21 (ja R))) (D':=#[Y,Y,Y,Y,Y,Y,Y,Y,Y,Y,Y,Y,Y,Y,Y,Y,Y,N,N]) (by kernel_rfl) (by kernel_rfl) ?_
          rintro _ _ ⟨rfl,rfl⟩
          refine ⟨.any,.inl R,?_⟩
          refine AtH.all1 17 (by kernel_rfl) ?_
          refine AtH.eff0 [(0,2),(1,3),(2,4)] R R R R R (jz R R (ja R) 0 R (Sub.self kMap) ty_24 (ja R)) (D':=#[Y,Y,Y,Y,Y,Y,Y,Y,Y,Y,Y,Y,Y,Y,Y,Y,Y,Y,N]) (by kernel_rfl) (by kernel_rfl) ?_
          rintro _ _ ⟨rfl,rfl⟩
          refine AtH.all1 18 (by kernel_rfl) ?_
          refine AtH.f [(0,2),(1,3),(2,4)] R R R R R R (eff_does R R R (jd (x:=(.tv (kInt .i64) r14.2)) (ja R))) (D':=#[Y,Y,Y,Y,Y,Y,Y,Y,Y,Y,Y,Y,Y,Y,Y,Y,Y,Y,Y]) (by kernel_rfl) (by kernel_rfl) ?_
          rintro _ _ ⟨rfl,rfl⟩
          refine ⟨.any,.inl R,?_⟩
          refine AtH.done (by kernel_rfl) ?_
          refine At.vl ?_
          refine At.w [2,3,4,0] R [(3,(.tv kStr id1)),(4,(.eq (.pointer (some ⟨g1,0,none⟩)))),(9,(.tv kBool r1)),(11,(.eq v24)),(12,(.eq v25)),(14,(.tv (kInt .i64) (Int.tmod (w64 one1) (x7.length:Int)))),(15,(.tv (kInt .i64) (Int.tmod (w64 two1) (x7.length:Int)))),(16,(.eq (.pointer (some ⟨g20,0,none⟩)))),(17,(.tv (kInt .i64) r14.2))] ⟨R,R,R,R,R,R,R,R,R,trivial⟩ (At.r ⟨r14.1,g20,r14.2,hF,R,R⟩)
         ·refine AtH.eff0 [(0,2),(1,3),(2,4)] R R R R R (jz R R (ja R) 0 R (Sub.self kMap) ty_24 (ja R)) (D':=#[Y,Y,Y,Y,Y,Y,Y,Y,Y,Y,Y,Y,Y,Y,Y,N,Y,Y,N]) (by kernel_rfl) (by kernel_rfl) ?_
          rintro _ _ ⟨rfl,rfl⟩
          refine AtH.all1 15 (by kernel_rfl) ?_
          refine AtH.f [(0,2),(1,3),(2,4)] R R R R R R (eff_does R R R (does_extract21 (ja R))) (D':=#[Y,Y,Y,Y,Y,Y,Y,Y,Y,Y,Y,Y,Y,Y,Y,Y,Y,Y,N]) (by kernel_rfl) (by kernel_rfl) ?_
          rintro _ _ ⟨rfl,rfl⟩
          refine ⟨.any,.inl R,?_⟩
          refine AtH.all1 18 (by kernel_rfl) ?_
          refine AtH.f [(0,2),(1,3),(2,4)] R R R R R R (eff_does R R R (jd (x:=(.tv (kInt .i64) r14.2)) (ja R))) (D':=#[Y,Y,Y,Y,Y,Y,Y,Y,Y,Y,Y,Y,Y,Y,Y,Y,Y,Y,Y]) (by kernel_rfl) (by kernel_rfl) ?_
          rintro _ _ ⟨rfl,rfl⟩
          refine ⟨.any,.inl R,?_⟩
          refine AtH.done (by kernel_rfl) ?_
          refine At.vl ?_
          refine At.w [2,3,4,0] R [(3,(.tv kStr id1)),(4,(.eq (.pointer (some ⟨g1,0,none⟩)))),(9,(.tv kBool r1)),(11,(.eq v24)),(12,(.eq v25)),(14,(.tv (kInt .i64) (Int.tmod (w64 one1) (x7.length:Int)))),(15,(.tv (kInt .i64) (Int.tmod (w64 two1) (x7.length:Int)))),(16,(.eq (.pointer (some ⟨g20,0,none⟩)))),(17,(.tv (kInt .i64) r14.2))] ⟨R,R,R,R,R,R,R,R,R,trivial⟩ (At.r ⟨r14.1,g20,r14.2,hF,R,R⟩)
        ·refine AtH.f [(0,2),(1,3),(2,4)] R R R R R R (eff_does R R R (does_extract21 (ja R))) (D':=#[Y,Y,Y,Y,Y,Y,Y,Y,Y,Y,Y,Y,Y,Y,N,Y,Y,N,N]) (by kernel_rfl) (by kernel_rfl) ?_
         rintro _ _ ⟨rfl,rfl⟩
         refine ⟨.any,.inl R,?_⟩
         refine AtH.all1 14 (by kernel_rfl) ?_
         refine AtH.f [(0,2),(1,3),(2,4)] R R R R R R (eff_does R R R (does_extract20 (ja R))) (D':=#[Y,Y,Y,Y,Y,Y,Y,Y,Y,Y,Y,Y,Y,Y,Y,Y,Y,N,N]) (by kernel_rfl) (by kernel_rfl) ?_
         rintro _ _ ⟨rfl,rfl⟩
         refine ⟨.any,.inl R,?_⟩
         refine AtH.all1 17 (by kernel_rfl) ?_
         refine AtH.eff0 [(0,2),(1,3),(2,4)] R R R R R (jz R R (ja R) 0 R (Sub.self kMap) ty_24 (ja R)) (D':=#[Y,Y,Y,Y,Y,Y,Y,Y,Y,Y,Y,Y,Y,Y,Y,Y,Y,Y,N]) (by kernel_rfl) (by kernel_rfl) ?_
         rintro _ _ ⟨rfl,rfl⟩
         refine AtH.all1 18 (by kernel_rfl) ?_
         refine AtH.f [(0,2),(1,3),(2,4)] R R R R R R (eff_does R R R (jd (x:=(.tv (kInt .i64) r14.2)) (ja R))) (D':=#[Y,Y,Y,Y,Y,Y,Y,Y,Y,Y,Y,Y,Y,Y,Y,Y,Y,Y,Y]) (by kernel_rfl) (by kernel_rfl) ?_
         rintro _ _ ⟨rfl,rfl⟩
         refine ⟨.any,.inl R,?_⟩
         refine AtH.done (by kernel_rfl) ?_
         refine At.vl ?_
         refine At.w [2,3,4,0] R [(3,(.tv kStr id1)),(4,(.eq (.pointer (some ⟨g1,0,none⟩)))),(9,(.tv kBool r1)),(11,(.eq v24)),(12,(.eq v25)),(14,(.tv (kInt .i64) (Int.tmod (w64 one1) (x7.length:Int)))),(15,(.tv (kInt .i64) (Int.tmod (w64 two1) (x7.length:Int)))),(16,(.eq (.pointer (some ⟨g20,0,none⟩)))),(17,(.tv (kInt .i64) r14.2))] ⟨R,R,R,R,R,R,R,R,R,trivial⟩ (At.r ⟨r14.1,g20,r14.2,hF,R,R⟩)
      ·refine AtH.f [(0,1),(1,2),(2,3)] R R R R R R (eff_alloc R R R tz_24) (D':=#[Y,Y,Y,Y,Y,Y,Y,Y,Y,Y,Y,N,N,N,N,N,Y,N,N]) (by kernel_rfl) (by kernel_rfl) ?_
       rintro _ _ ⟨g21,rfl,rfl⟩
       refine ⟨_,.inr ⟨R,flat_eq⟩,?_⟩
       refine AtH.all1 11 (by kernel_rfl) ?_
       refine AtH.freeze 1 120 R R ?_
       refine AtH.f [(0,2),(1,3),(2,4)] R R R R R R (jo R R (jq R en_27 (jf (ja R) (jf (ja R) jg))) [] R (qi.ok hF)) (D':=#[Y,Y,Y,Y,Y,Y,Y,Y,Y,Y,Y,Y,N,N,N,N,Y,N,N]) (by kernel_rfl) (by kernel_rfl) ?_
       rintro _ _ ⟨_,_,⟨r13,hF,rfl,rfl⟩,rfl,rfl⟩
       refine ⟨.any,.inl R,?_⟩
       replace hF:=W.vq hF
       refine AtH.all1 12 (by kernel_rfl) ?_
       refine AtH.f [(0,2),(1,3),(2,4)] R R R R R R (jo R R (jq R en_26 (jf (ja R) (jf (ja R) jg))) [] R (zo.ok hF)) (D':=#[Y,Y,Y,Y,Y,Y,Y,Y,Y,Y,Y,Y,Y,N,N,N,Y,N,N]) (by kernel_rfl) (by kernel_rfl) ?_
       rintro _ _ ⟨_,_,⟨r14,hF,rfl,rfl⟩,rfl,rfl⟩
       refine ⟨.any,.inl R,?_⟩
       refine AtH.all1 13 (by kernel_rfl) ?_
       refine AtH.f [(0,2),(1,3),(2,4)] R R R R R R (eff_does R R R (jb (x:=(.tup2 (.tv kMap r14.1) (.tv (kInt .i64) r14.2))) (ja R))) (D':=#[Y,Y,Y,Y,Y,Y,Y,Y,Y,Y,Y,Y,Y,Y,N,N,Y,N,N]) (by kernel_rfl) (by kernel_rfl) ?_
       rintro _ _ ⟨rfl,rfl⟩
       refine ⟨.any,.inl R,?_⟩
       refine AtH.all2 14 15 (by kernel_rfl) ?_ ?_
       ·refine AtH.f [(0,2),(1,3),(2,4)] R R R R R R (eff_does R R R (does_extract20 (ja R))) (D':=#[Y,Y,Y,Y,Y,Y,Y,Y,Y,Y,Y,Y,Y,Y,Y,N,Y,N,N]) (by kernel_rfl) (by kernel_rfl) ?_
        rintro _ _ ⟨rfl,rfl⟩
        refine ⟨.any,.inl R,?_⟩
        refine AtH.all2 15 17 (by kernel_rfl) ?_ ?_
        ·refine AtH.f [(0,2),(1,3),(2,4)] R R R R R R (eff_does R R R (does_extract21 (ja R))) (D':=#[Y,Y,Y,Y,Y,Y,Y,Y,Y,Y,Y,Y,Y,Y,Y,Y,Y,N,N]) (by kernel_rfl) (by kernel_rfl) ?_
         rintro _ _ ⟨rfl,rfl⟩
         refine ⟨.any,.inl R,?_⟩
         refine AtH.all1 17 (by kernel_rfl) ?_
         refine AtH.eff0 [(0,2),(1,3),(2,4)] R R R R R (jz R R (ja R) 0 R (Sub.self kMap) ty_24 (ja R)) (D':=#[Y,Y,Y,Y,Y,Y,Y,Y,Y,Y,Y,Y,Y,Y,Y,Y,Y,Y,N]) (by kernel_rfl) (by kernel_rfl) ?_
         rintro _ _ ⟨rfl,rfl⟩
         refine AtH.all1 18 (by kernel_rfl) ?_
         refine AtH.f [(0,2),(1,3),(2,4)] R R R R R R (eff_does R R R (jd (x:=(.tv (kInt .i64) r14.2)) (ja R))) (D':=#[Y,Y,Y,Y,Y,Y,Y,Y,Y,Y,Y,Y,Y,Y,Y,Y,Y,Y,Y]) (by kernel_rfl) (by kernel_rfl) ?_
         rintro _ _ ⟨rfl,rfl⟩
         refine ⟨.any,.inl R,?_⟩
         refine AtH.done (by kernel_rfl) ?_
         refine At.vl ?_
         refine At.w [2,3,4,0] R [(3,(.tv kStr id1)),(4,(.eq (.pointer (some ⟨g1,0,none⟩)))),(9,(.tv kBool r1)),(11,(.eq v24)),(12,(.eq v25)),(14,(.tv (kInt .i64) (Int.tmod (w64 one1) (x7.length:Int)))),(15,(.tv (kInt .i64) (Int.tmod (w64 two1) (x7.length:Int)))),(16,(.eq (.pointer (some ⟨g21,0,none⟩)))),(17,(.tv (kInt .i64) r14.2))] ⟨R,R,R,R,R,R,R,R,R,trivial⟩ (At.r ⟨r14.1,g21,r14.2,hF,R,R⟩)
        ·refine AtH.eff0 [(0,2),(1,3),(2,4)] R R R R R (jz R R (ja R) 0 R (Sub.self kMap) ty_24 (ja R)) (D':=#[Y,Y,Y,Y,Y,Y,Y,Y,Y,Y,Y,Y,Y,Y,Y,N,Y,Y,N]) (by kernel_rfl) (by kernel_rfl) ?_
         rintro _ _ ⟨rfl,rfl⟩
         refine AtH.all1 15 (by kernel_rfl) ?_
         refine AtH.f [(0,2),(1,3),(2,4)] R R R R R R (eff_does R R R (does_extract21 (ja R))) (D':=#[Y,Y,Y,Y,Y,Y,Y,Y,Y,Y,Y,Y,Y,Y,Y,Y,Y,Y,N]) (by kernel_rfl) (by kernel_rfl) ?_
         rintro _ _ ⟨rfl,rfl⟩
         refine ⟨.any,.inl R,?_⟩
         refine AtH.all1 18 (by kernel_rfl) ?_
         refine AtH.f [(0,2),(1,3),(2,4)] R R R R R R (eff_does R R R (jd (x:=(.tv (kInt .i64) r14.2)) (ja R))) (D':=#[Y,Y,Y,Y,Y,Y,Y,Y,Y,Y,Y,Y,Y,Y,Y,Y,Y,Y,Y]) (by kernel_rfl) (by kernel_rfl) ?_
         rintro _ _ ⟨rfl,rfl⟩
         refine ⟨.any,.inl R,?_⟩
         refine AtH.done (by kernel_rfl) ?_
         refine At.vl ?_
         refine At.w [2,3,4,0] R [(3,(.tv kStr id1)),(4,(.eq (.pointer (some ⟨g1,0,none⟩)))),(9,(.tv kBool r1)),(11,(.eq v24)),(12,(.eq v25)),(14,(.tv (kInt .i64) (Int.tmod (w64 one1) (x7.length:Int)))),(15,(.tv (kInt .i64) (Int.tmod (w64 two1) (x7.length:Int)))),(16,(.eq (.pointer (some ⟨g21,0,none⟩)))),(17,(.tv (kInt .i64) r14.2))] ⟨R,R,R,R,R,R,R,R,R,trivial⟩ (At.r ⟨r14.1,g21,r14.2,hF,R,R⟩)
       ·refine AtH.f [(0,2),(1,3),(2,4)] R R R R R R (eff_does R R R (does_extract21 (ja R))) (D':=#[Y,Y,Y,Y,Y,Y,Y,Y,Y,Y,Y,Y,Y,Y,N,Y,Y,N,N]) (by kernel_rfl) (by kernel_rfl) ?_
        rintro _ _ ⟨rfl,rfl⟩
        refine ⟨.any,.inl R,?_⟩
        refine AtH.all1 14 (by kernel_rfl) ?_
        refine AtH.f [(0,2),(1,3),(2,4)] R R R R R R (eff_does R R R (does_extract20 (ja R))) (D':=#[Y,Y,Y,Y,Y,Y,Y,Y,Y,Y,Y,Y,Y,Y,Y,Y,Y,N,N]) (by kernel_rfl) (by kernel_rfl) ?_
        rintro _ _ ⟨rfl,rfl⟩
        refine ⟨.any,.inl R,?_⟩
        refine AtH.all1 17 (by kernel_rfl) ?_
        refine AtH.eff0 [(0,2),(1,3),(2,4)] R R R R R (jz R R (ja R) 0 R (Sub.self kMap) ty_24 (ja R)) (D':=#[Y,Y,Y,Y,Y,Y,Y,Y,Y,Y,Y,Y,Y,Y,Y,Y,Y,Y,N]) (by kernel_rfl) (by kernel_rfl) ?_
        rintro _ _ ⟨rfl,rfl⟩
        refine AtH.all1 18 (by kernel_rfl) ?_
        refine AtH.f [(0,2),(1,3),(2,4)] R R R R R R (eff_does R R R (jd (x:=(.tv (kInt .i64) r14.2)) (ja R))) (D':=#[Y,Y,Y,Y,Y,Y,Y,Y,Y,Y,Y,Y,Y,Y,Y,Y,Y,Y,Y]) (by kernel_rfl) (by kernel_rfl) ?_
        rintro _ _ ⟨rfl,rfl⟩
        refine ⟨.any,.inl R,?_⟩
        refine AtH.done (by kernel_rfl) ?_
        refine At.vl ?_
        refine At.w [2,3,4,0] R [(3,(.tv kStr id1)),(4,(.eq (.pointer (some ⟨g1,0,none⟩)))),(9,(.tv kBool r1)),(11,(.eq v24)),(12,(.eq v25)),(14,(.tv (kInt .i64) (Int.tmod (w64 one1) (x7.length:Int)))),(15,(.tv (kInt .i64) (Int.tmod (w64 two1) (x7.length:Int)))),(16,(.eq (.pointer (some ⟨g21,0,none⟩)))),(17,(.tv (kInt .i64) r14.2))] ⟨R,R,R,R,R,R,R,R,R,trivial⟩ (At.r ⟨r14.1,g21,r14.2,hF,R,R⟩)
     ·refine AtH.f [(0,0),(1,1),(2,2)] R R R R R R (eff_alloc R R R tz_24) (D':=#[Y,Y,Y,Y,Y,Y,Y,Y,Y,Y,N,N,N,N,N,N,Y,N,N]) (by kernel_rfl) (by kernel_rfl) ?_
      rintro _ _ ⟨g22,rfl,rfl⟩
      refine ⟨_,.inr ⟨R,flat_eq⟩,?_⟩
      refine AtH.all1 10 (by kernel_rfl) ?_
      refine AtH.f [(0,1),(1,2),(2,3)] R R R R R R (vc R R R (os:=[.tmp 115,.tmp 119]) R sl_41 (xs:=([(rd (⟨#[]⟩:BA) x7 (Int.tmod (w64 one1) (x7.length:Int))),(rd (⟨#[]⟩:BA) x7 (Int.tmod (w64 two1) (x7.length:Int)))]:List BA)) (jf (ja R) (jf (ja R) jg)) R R) (D':=#[Y,Y,Y,Y,Y,Y,Y,Y,Y,Y,Y,N,N,N,N,N,Y,N,N]) (by kernel_rfl) (by kernel_rfl) ?_
      rintro _ _ ⟨v31,rfl,rfl⟩
      refine ⟨_,.inr ⟨R,flat_eq⟩,?_⟩
      refine AtH.all1 11 (by kernel_rfl) ?_
      refine AtH.freeze 0 120 R R ?_
      refine AtH.f [(0,2),(1,3),(2,4)] R R R R R R (jo R R (jq R en_27 (jf (ja R) (jf (ja R) jg))) [] R (qi.ok hF)) (D':=#[Y,Y,Y,Y,Y,Y,Y,Y,Y,Y,Y,Y,N,N,N,N,Y,N,N]) (by kernel_rfl) (by kernel_rfl) ?_
      rintro _ _ ⟨_,_,⟨r13,hF,rfl,rfl⟩,rfl,rfl⟩
      refine ⟨.any,.inl R,?_⟩
      replace hF:=W.vq hF
      refine AtH.all1 12 (by kernel_rfl) ?_
      refine AtH.f [(0,2),(1,3),(2,4)] R R R R R R (jo R R (jq R en_26 (jf (ja R) (jf (ja R) jg))) [] R (zo.ok hF)) (D':=#[Y,Y,Y,Y,Y,Y,Y,Y,Y,Y,Y,Y,Y,N,N,N,Y,N,N]) (by kernel_rfl) (by kernel_rfl) ?_
      rintro _ _ ⟨_,_,⟨r14,hF,rfl,rfl⟩,rfl,rfl⟩
      refine ⟨.any,.inl R,?_⟩
      refine AtH.all1 13 (by kernel_rfl) ?_
      refine AtH.f [(0,2),(1,3),(2,4)] R R R R R R (eff_does R R R (jb (x:=(.tup2 (.tv kMap r14.1) (.tv (kInt .i64) r14.2))) (ja R))) (D':=#[Y,Y,Y,Y,Y,Y,Y,Y,Y,Y,Y,Y,Y,Y,N,N,Y,N,N]) (by kernel_rfl) (by kernel_rfl) ?_
      rintro _ _ ⟨rfl,rfl⟩
      refine ⟨.any,.inl R,?_⟩
      refine AtH.all2 14 15 (by kernel_rfl) ?_ ?_
      ·refine AtH.f [(0,2),(1,3),(2,4)] R R R R R R (eff_does R R R (does_extract20 (ja R))) (D':=#[Y,Y,Y,Y,Y,Y,Y,Y,Y,Y,Y,Y,Y,Y,Y,N,Y,N,N]) (by kernel_rfl) (by kernel_rfl) ?_
       rintro _ _ ⟨rfl,rfl⟩
       refine ⟨.any,.inl R,?_⟩
       refine AtH.all2 15 17 (by kernel_rfl) ?_ ?_
       ·refine AtH.f [(0,2),(1,3),(2,4)] R R R R R R (eff_does R R R (does_extract21 (ja R))) (D':=#[Y,Y,Y,Y,Y,Y,Y,Y,Y,Y,Y,Y,Y,Y,Y,Y,Y,N,N]) (by kernel_rfl) (by kernel_rfl) ?_
        rintro _ _ ⟨rfl,rfl⟩
        refine ⟨.any,.inl R,?_⟩
        refine AtH.all1 17 (by kernel_rfl) ?_
        refine AtH.eff0 [(0,2),(1,3),(2,4)] R R R R R (jz R R (ja R) 1 R (Sub.self kMap) ty_24 (ja R)) (D':=#[Y,Y,Y,Y,Y,Y,Y,Y,Y,Y,Y,Y,Y,Y,Y,Y,Y,Y,N]) (by kernel_rfl) (by kernel_rfl) ?_
        rintro _ _ ⟨rfl,rfl⟩
        refine AtH.all1 18 (by kernel_rfl) ?_
        refine AtH.f [(0,2),(1,3),(2,4)] R R R R R R (eff_does R R R (jd (x:=(.tv (kInt .i64) r14.2)) (ja R))) (D':=#[Y,Y,Y,Y,Y,Y,Y,Y,Y,Y,Y,Y,Y,Y,Y,Y,Y,Y,Y]) (by kernel_rfl) (by kernel_rfl) ?_
        rintro _ _ ⟨rfl,rfl⟩
        refine ⟨.any,.inl R,?_⟩
        refine AtH.done (by kernel_rfl) ?_
        refine At.vl ?_
        refine At.w [2,3,4,1] R [(3,(.tv kStr id1)),(4,(.eq (.pointer (some ⟨g1,0,none⟩)))),(9,(.tv kBool r1)),(11,(.eq v24)),(12,(.eq v25)),(14,(.tv (kInt .i64) (Int.tmod (w64 one1) (x7.length:Int)))),(15,(.tv (kInt .i64) (Int.tmod (w64 two1) (x7.length:Int)))),(16,(.eq (.pointer (some ⟨g22,0,none⟩)))),(17,(.tv (kInt .i64) r14.2))] ⟨R,R,R,R,R,R,R,R,R,trivial⟩ (At.r ⟨r14.1,g22,r14.2,hF,R,R⟩)
       ·refine AtH.eff0 [(0,2),(1,3),(2,4)] R R R R R (jz R R (ja R) 1 R (Sub.self kMap) ty_24 (ja R)) (D':=#[Y,Y,Y,Y,Y,Y,Y,Y,Y,Y,Y,Y,Y,Y,Y,N,Y,Y,N]) (by kernel_rfl) (by kernel_rfl) ?_
        rintro _ _ ⟨rfl,rfl⟩
        refine AtH.all1 15 (by kernel_rfl) ?_
        refine AtH.f [(0,2),(1,3),(2,4)] R R R R R R (eff_does R R R (does_extract21 (ja R))) (D':=#[Y,Y,Y,Y,Y,Y,Y,Y,Y,Y,Y,Y,Y,Y,Y,Y,Y,Y,N]) (by kernel_rfl) (by kernel_rfl) ?_
        rintro _ _ ⟨rfl,rfl⟩
        refine ⟨.any,.inl R,?_⟩
        refine AtH.all1 18 (by kernel_rfl) ?_
        refine AtH.f [(0,2),(1,3),(2,4)] R R R R R R (eff_does R R R (jd (x:=(.tv (kInt .i64) r14.2)) (ja R))) (D':=#[Y,Y,Y,Y,Y,Y,Y,Y,Y,Y,Y,Y,Y,Y,Y,Y,Y,Y,Y]) (by kernel_rfl) (by kernel_rfl) ?_
        rintro _ _ ⟨rfl,rfl⟩
        refine ⟨.any,.inl R,?_⟩
        refine AtH.done (by kernel_rfl) ?_
        refine At.vl ?_
        refine At.w [2,3,4,1] R [(3,(.tv kStr id1)),(4,(.eq (.pointer (some ⟨g1,0,none⟩)))),(9,(.tv kBool r1)),(11,(.eq v24)),(12,(.eq v25)),(14,(.tv (kInt .i64) (Int.tmod (w64 one1) (x7.length:Int)))),(15,(.tv (kInt .i64) (Int.tmod (w64 two1) (x7.length:Int)))),(16,(.eq (.pointer (some ⟨g22,0,none⟩)))),(17,(.tv (kInt .i64) r14.2))] ⟨R,R,R,R,R,R,R,R,R,trivial⟩ (At.r ⟨r14.1,g22,r14.2,hF,R,R⟩)
      ·refine AtH.f [(0,2),(1,3),(2,4)] R R R R R R (eff_does R R R (does_extract21 (ja R))) (D':=#[Y,Y,Y,Y,Y,Y,Y,Y,Y,Y,Y,Y,Y,Y,N,Y,Y,N,N]) (by kernel_rfl) (by kernel_rfl) ?_
       rintro _ _ ⟨rfl,rfl⟩
       refine ⟨.any,.inl R,?_⟩
       refine AtH.all1 14 (by kernel_rfl) ?_
       refine AtH.f [(0,2),(1,3),(2,4)] R R R R R R (eff_does R R R (does_extract20 (ja R))) (D':=#[Y,Y,Y,Y,Y,Y,Y,Y,Y,Y,Y,Y,Y,Y,Y,Y,Y,N,N]) (by kernel_rfl) (by kernel_rfl) ?_
       rintro _ _ ⟨rfl,rfl⟩
       refine ⟨.any,.inl R,?_⟩
       refine AtH.all1 17 (by kernel_rfl) ?_
       refine AtH.eff0 [(0,2),(1,3),(2,4)] R R R R R (jz R R (ja R) 1 R (Sub.self kMap) ty_24 (ja R)) (D':=#[Y,Y,Y,Y,Y,Y,Y,Y,Y,Y,Y,Y,Y,Y,Y,Y,Y,Y,N]) (by kernel_rfl) (by kernel_rfl) ?_
       rintro _ _ ⟨rfl,rfl⟩
       refine AtH.all1 18 (by kernel_rfl) ?_
       refine AtH.f [(0,2),(1,3),(2,4)] R R R R R R (eff_does R R R (jd (x:=(.tv (kInt .i64) r14.2)) (ja R))) (D':=#[Y,Y,Y,Y,Y,Y,Y,Y,Y,Y,Y,Y,Y,Y,Y,Y,Y,Y,Y]) (by kernel_rfl) (by kernel_rfl) ?_
       rintro _ _ ⟨rfl,rfl⟩
       refine ⟨.any,.inl R,?_⟩
       refine AtH.done (by kernel_rfl) ?_
       refine At.vl ?_
       refine At.w [2,3,4,1] R [(3,(.tv kStr id1)),(4,(.eq (.pointer (some ⟨g1,0,none⟩)))),(9,(.tv kBool r1)),(11,(.eq v24)),(12,(.eq v25)),(14,(.tv (kInt .i64) (Int.tmod (w64 one1) (x7.length:Int)))),(15,(.tv (kInt .i64) (Int.tmod (w64 two1) (x7.length:Int)))),(16,(.eq (.pointer (some ⟨g22,0,none⟩)))),(17,(.tv (kInt .i64) r14.2))] ⟨R,R,R,R,R,R,R,R,R,trivial⟩ (At.r ⟨r14.1,g22,r14.2,hF,R,R⟩)
    ·rintro _ _ ⟨x9,g12,e1,hF,rfl,rfl⟩
     unfold Vb.c2 at hF
     refine At.seq (At.seq ?_)
     refine At.draw mixed [0,1,2,3] R [[],[],[],[]] (fun φ w hgd=>?_)
     obtain ⟨hq15,hF⟩:=hF
     obtain ⟨hq16,hF⟩:=hF
     refine AtH.take [0,1,2,3] hgd 0 R R R R (D':=#[Y,N,N,N,N,N,N,N,N,N,N,N,N]) (by kernel_rfl) (fun _ _ _ _ h=>h) R (jb (x:=(.tv (kInt .i64) e1)) (ja R)) ?_
     refine AtH.take [0,1,2,3] hgd 1 R R R R (D':=#[Y,Y,N,N,N,N,N,N,N,N,N,N,N]) (by kernel_rfl) (fun _ _ _ _ h=>h) R (jk (ja R) (ji _ _) bin_neq) ?_
     refine AtH.take [0,1,2,3] hgd 2 R R R R (D':=#[Y,Y,Y,N,N,N,N,N,N,N,N,N,N]) (by kernel_rfl) (fun _ _ _ _ h=>h) R (jb (x:=(.tv kBool (e1 != (0:Int)))) (ja R)) ?_
     refine AtH.vo [0,1,2,3] hgd 3 R R R (jx R) R R (D':=#[Y,Y,Y,Y,N,N,N,N,N,N,N,N,N]) (by kernel_rfl) (fun _ _ _ _ h=>h) R (fun hg24=>(jb (x:=(.eq v24)) (ja R))) ?_
     refine AtH.vo [0,1,2,3] hgd 4 R R R (jx R) R R (D':=#[Y,Y,Y,Y,Y,N,N,N,N,N,N,N,N]) (by kernel_rfl) (fun _ _ _ _ h=>h) R (fun hg25=>(jb (x:=(.tv (kInt .i64) (Int.tmod (w64 one1) (x7.length:Int)))) (ja R))) ?_
     refine AtH.vo [0,1,2,3] hgd 5 R R R (jx R) R R (D':=#[Y,Y,Y,Y,Y,Y,N,N,N,N,N,N,N]) (by kernel_rfl) (fun _ _ _ _ h=>h) R (fun hg26=>(does_idx_row (jh R hg26) 1 R (jh R hg26) Tryz.underlying41 ty_9 (hq15 hg26))) ?_
     refine AtH.vo [0,1,2,3] hgd 6 R R R (jx R) R R (D':=#[Y,Y,Y,Y,Y,Y,Y,N,N,N,N,N,N]) (by kernel_rfl) (fun _ _ _ _ h=>h) R (fun hg27=>(Jh (jh R hg27) 1 R (Int.tmod (w64 one1) (x7.length:Int)) 0 R (⟨#[]⟩:BA) (hq15 hg27) (Sub.self kStr) ty_9)) ?_
     refine AtH.vo [0,1,2,3] hgd 7 R R R (jx R) R R (D':=#[Y,Y,Y,Y,Y,Y,Y,Y,N,N,N,N,N]) (by kernel_rfl) (fun _ _ _ _ h=>h) R (fun hg28=>(jb (x:=(.eq v24)) (ja R))) ?_
     refine AtH.vo [0,1,2,3] hgd 8 R R R (jx R) R R (D':=#[Y,Y,Y,Y,Y,Y,Y,Y,Y,N,N,N,N]) (by kernel_rfl) (fun _ _ _ _ h=>h) R (fun hg29=>(jb (x:=(.tv (kInt .i64) (Int.tmod (w64 two1) (x7.length:Int)))) (ja R))) ?_
     refine AtH.vo [0,1,2,3] hgd 9 R R R (jx R) R R (D':=#[Y,Y,Y,Y,Y,Y,Y,Y,Y,Y,N,N,N]) (by kernel_rfl) (fun _ _ _ _ h=>h) R (fun hg30=>(does_idx_row (jh R hg30) 1 R (jh R hg30) Tryz.underlying41 ty_9 (hq16 hg30))) ?_
     refine AtH.vo [0,1,2,3] hgd 10 R R R (jx R) R R (D':=#[Y,Y,Y,Y,Y,Y,Y,Y,Y,Y,Y,N,N]) (by kernel_rfl) (fun _ _ _ _ h=>h) R (fun hg31=>(Jh (jh R hg31) 1 R (Int.tmod (w64 two1) (x7.length:Int)) 0 R (⟨#[]⟩:BA) (hq16 hg31) (Sub.self kStr) ty_9)) ?_
     refine AtH.vo [0,1,2,3] hgd 11 R R R (jx R) R R (D':=#[Y,Y,Y,Y,Y,Y,Y,Y,Y,Y,Y,Y,N]) (by kernel_rfl) (fun _ _ _ _ h=>h) R (fun hg32=>(jk (jh R hg32) (jh R hg32) bin_seql)) ?_
     refine AtH.take [0,1,2,3] hgd 12 R R R R (D':=#[Y,Y,Y,Y,Y,Y,Y,Y,Y,Y,Y,Y,Y]) (by kernel_rfl) (fun _ _ _ _ h=>h) R (jm (ja R) (jl _) (ja R) vi) ?_
     refine AtH.done (by kernel_rfl) ?_
     refine At.vl ?_
     refine At.cond (ja R) (fun hb7=>?_) (fun hb7=>?_)
     ·replace hF:=W.ite_t hb7 hF
      refine At.seq (At.region (At.d R R R R (jb (x:=(.tv kBool r1)) (ja R)) ?_))
      refine At.d R R R R (jd (x:=(.tv kBool r1)) (ja R)) ?_
      refine At.done (At.vl (At.ret (At.vm ?_)))
      exact At.j rfl (rv_tmp rfl) [] rfl ⟨r1,hF,rfl,rfl⟩
     ·replace hF:=W.ite_f hb7 hF
      refine At.skip (At.vl ?_)
      refine At.cut (fun rs L=>∃ _:Unit,Vb.c3 m1 one1 two1 r1 x7 x8 x9 Q∧rs=[.box g1 24 kMap m1,.row v25 37 kPoint x8,.box g12 24 kMap x9]∧L=mkL [(4,(.eq (.pointer (some ⟨g1,0,none⟩)))),(9,(.tv kBool r1)),(12,(.eq v25)),(14,(.tv (kInt .i64) (Int.tmod (w64 one1) (x7.length:Int)))),(15,(.tv (kInt .i64) (Int.tmod (w64 two1) (x7.length:Int)))),(16,(.eq (.pointer (some ⟨g12,0,none⟩))))]) ?_ ?_
      ·refine At.seq (At.region (At.d R R R R (jd (x:=(.tv (kInt .i64) (0:Int))) (ji _ _)) ?_))
       refine At.done (At.vl (At.block ?_))
       obtain ⟨n2,hF⟩:=hF
       refine At.w [0,2,3] R [(3,(.tv kStr id1)),(4,(.eq (.pointer (some ⟨g1,0,none⟩)))),(9,(.tv kBool r1)),(12,(.eq v25)),(14,(.tv (kInt .i64) (Int.tmod (w64 one1) (x7.length:Int)))),(15,(.tv (kInt .i64) (Int.tmod (w64 two1) (x7.length:Int)))),(16,(.eq (.pointer (some ⟨g12,0,none⟩)))),(18,(.tv (kInt .i64) (0:Int)))] ⟨R,R,R,R,R,R,R,R,trivial⟩ ?_
       refine At.loop (fun m rs L=>∃ (i9:Int),W.iter1 (Vb.l1 m1 id1 r1 (Vb.c3 m1 one1 two1 r1 x7 x8 x9)) m i9 Q∧rs=[.box g1 24 kMap m1,.row v25 37 kPoint x8,.box g12 24 kMap x9]∧L=mkL [(3,(.tv kStr id1)),(4,(.eq (.pointer (some ⟨g1,0,none⟩)))),(9,(.tv kBool r1)),(12,(.eq v25)),(14,(.tv (kInt .i64) (Int.tmod (w64 one1) (x7.length:Int)))),(15,(.tv (kInt .i64) (Int.tmod (w64 two1) (x7.length:Int)))),(16,(.eq (.pointer (some ⟨g12,0,none⟩)))),(18,(.tv (kInt .i64) i9))]) ?_ ?_ (m:=n2) ⟨(0:Int),hF,R,R⟩
       ·rintro rs L ⟨_,hF,_,_⟩;exact hF
       ·rintro m2 _ _ ⟨i9,hF,rfl,rfl⟩
        replace hF:=W.iter1_s hF
        unfold Vb.l1 at hF
        refine At.seq (At.seq (At.region (At.d R R R R (jb (x:=(.tv (kInt .i64) i9)) (ja R)) ?_)))
        refine At.d R R R R (je (ja R) qq) ?_
        refine At.d R R R R (jc (ja R) 0 R qc ty_22) ?_
        refine At.d R R R R (jt (ja R) Tryz.underlying22) ?_
        refine At.d R R R R (jk (ja R) (ja R) vg) ?_
        refine At.done (At.vl ?_)
        refine At.cond (ja R) (fun hb28=>?_) (fun hb28=>?_)
        ·replace hF:=W.ite_t hb28 hF
         refine At.skip (At.vl ?_)
         refine At.cut (fun rs L=>∃ _:Unit,Vb.c4 i9 (W.iter1 (Vb.l1 m1 id1 r1 (Vb.c3 m1 one1 two1 r1 x7 x8 x9)) m2) Q∧rs=[.box g1 24 kMap m1,.row v25 37 kPoint x8,.box g12 24 kMap x9]∧L=mkL [(3,(.tv kStr id1)),(4,(.eq (.pointer (some ⟨g1,0,none⟩)))),(9,(.tv kBool r1)),(12,(.eq v25)),(14,(.tv (kInt .i64) (Int.tmod (w64 one1) (x7.length:Int)))),(15,(.tv (kInt .i64) (Int.tmod (w64 two1) (x7.length:Int)))),(16,(.eq (.pointer (some ⟨g12,0,none⟩)))),(18,(.tv (kInt .i64) i9))]) ?_ ?_
         ·refine At.block (At.seq (At.region (At.d R R R R (jd (x:=(.tv (kInt .i64) (0:Int))) (ji _ _)) ?_)))
          refine At.done (At.vl (At.block ?_))
          obtain ⟨n1,hF⟩:=hF
          refine At.w [0,1,2] R [(3,(.tv kStr id1)),(4,(.eq (.pointer (some ⟨g1,0,none⟩)))),(9,(.tv kBool r1)),(12,(.eq v25)),(14,(.tv (kInt .i64) (Int.tmod (w64 one1) (x7.length:Int)))),(15,(.tv (kInt .i64) (Int.tmod (w64 two1) (x7.length:Int)))),(16,(.eq (.pointer (some ⟨g12,0,none⟩)))),(18,(.tv (kInt .i64) i9)),(19,(.tv (kInt .i64) (0:Int)))] ⟨R,R,R,R,R,R,R,R,R,trivial⟩ ?_
          refine At.loop (fun m rs L=>∃ (k18:Int),W.iter1 (Vb.l2 m1 id1 r1 i9 (Vb.c4 i9 (W.iter1 (Vb.l1 m1 id1 r1 (Vb.c3 m1 one1 two1 r1 x7 x8 x9)) m2))) m k18 Q∧rs=[.box g1 24 kMap m1,.row v25 37 kPoint x8,.box g12 24 kMap x9]∧L=mkL [(3,(.tv kStr id1)),(4,(.eq (.pointer (some ⟨g1,0,none⟩)))),(9,(.tv kBool r1)),(12,(.eq v25)),(14,(.tv (kInt .i64) (Int.tmod (w64 one1) (x7.length:Int)))),(15,(.tv (kInt .i64) (Int.tmod (w64 two1) (x7.length:Int)))),(16,(.eq (.pointer (some ⟨g12,0,none⟩)))),(18,(.tv (kInt .i64) i9)),(19,(.tv (kInt .i64) k18))]) ?_ ?_ (m:=n1) ⟨(0:Int),hF,R,R⟩
          ·rintro rs L ⟨_,hF,_,_⟩;exact hF
          ·rintro m3 _ _ ⟨k18,hF,rfl,rfl⟩
           replace hF:=W.iter1_s hF
           unfold Vb.l2 at hF
           refine At.seq (At.seq (At.region (At.d R R R R (jb (x:=(.tv (kInt .i64) k18)) (ja R)) ?_)))
           refine At.d R R R R (je (ja R) qq) ?_
           refine At.d R R R R (jc (ja R) 0 R qc ty_22) ?_
           refine At.d R R R R (jb (x:=(.tv (kInt .i64) i9)) (ja R)) ?_
           obtain ⟨hq55,hF⟩:=hF
           refine At.d R R R R (vj zObject (ja R) (ja R) Tryz.underlying22 ty_59 hq55) ?_
           refine At.d R R R R (Ji (K:=kObject) (ja R) qz Vl) ?_
           refine At.d R R R R (vw (K:=(kSlice kStr)) (ja R) ty_41) ?_
           refine At.d R R R R (jt (ja R) Tryz.underlying41) ?_
           refine At.d R R R R (jk (ja R) (ja R) vg) ?_
           refine At.done (At.vl ?_)
           refine At.cond (ja R) (fun hb37=>?_) (fun hb37=>?_)
           ·replace hF:=W.ite_t hb37 hF
            refine At.skip (At.vl (At.seq (At.block (At.seq (At.region (At.d R R R R (je (ja R) qq) ?_))))))
            refine At.d R R R R (jc (ja R) 0 R qc ty_22) ?_
            refine At.d R R R R (jb (x:=(.tv (kInt .i64) i9)) (ja R)) ?_
            obtain ⟨hq56,hF⟩:=hF
            refine At.d R R R R (vj zObject (ja R) (ja R) Tryz.underlying22 ty_59 hq56) ?_
            refine At.d R R R R (Ji (K:=kObject) (ja R) qz Vl) ?_
            refine At.d R R R R (vw (K:=(kSlice kStr)) (ja R) ty_41) ?_
            refine At.d R R R R (jb (x:=(.tv (kInt .i64) k18)) (ja R)) ?_
            obtain ⟨hq57,hF⟩:=hF
            refine At.d R R R R (vj (⟨#[]⟩:BA) (ja R) (ja R) Tryz.underlying41 ty_9 hq57) ?_
            refine At.d R R R R (vw (K:=kStr) (ja R) ty_9) ?_
            refine At.d R R R R (jb (x:=(.tv kStr id1)) (ja R)) ?_
            refine At.d R R R R (jk (ja R) (ja R) bin_seql) ?_
            refine At.done (At.vl ?_)
            refine At.cond (ja R) (fun hb38=>?_) (fun hb38=>?_)
            ·replace hF:=W.ite_t hb38 hF
             refine At.seq (At.region (At.d R R R R (jb (x:=(.tv kBool r1)) (ja R)) ?_))
             refine At.d R R R R (jd (x:=(.tv kBool r1)) (ja R)) ?_
             refine At.done (At.vl (At.ret ?_))
             refine At.q ?_
             refine At.vm (At.vm ?_)
             refine At.q ?_
             refine At.q ?_
             refine At.vm (At.vm ?_)
             refine At.q ?_
             refine At.vm ?_
             exact At.j rfl (rv_tmp rfl) [] rfl ⟨r1,hF,rfl,rfl⟩
            ·replace hF:=W.ite_f hb38 hF
             refine At.skip ?_
             refine At.n ?_
             refine At.vl (At.region (At.d R R R R (jb (x:=(.tv (kInt .i64) k18)) (ja R)) ?_))
             refine At.d R R R R (jk (ja R) (ji _ _) vf) ?_
             refine At.d R R R R (jd (x:=(.tv (kInt .i64) (w64 (k18+(1:Int))))) (ja R)) ?_
             refine At.done (At.vl ?_)
             refine At.w [0,1,2] R [(3,(.tv kStr id1)),(4,(.eq (.pointer (some ⟨g1,0,none⟩)))),(9,(.tv kBool r1)),(12,(.eq v25)),(14,(.tv (kInt .i64) (Int.tmod (w64 one1) (x7.length:Int)))),(15,(.tv (kInt .i64) (Int.tmod (w64 two1) (x7.length:Int)))),(16,(.eq (.pointer (some ⟨g12,0,none⟩)))),(18,(.tv (kInt .i64) i9)),(19,(.tv (kInt .i64) (w64 (k18+(1:Int)))))] ⟨R,R,R,R,R,R,R,R,R,trivial⟩ (At.r ⟨(w64 (k18+(1:Int))),hF,R,R⟩)
           ·replace hF:=W.ite_f hb37 hF
            refine At.exit ?_
            refine At.x (At.x ?_)
            refine At.h ?_
            refine At.n ?_
            refine At.vl ?_
            refine At.w [0,1,2] R [(3,(.tv kStr id1)),(4,(.eq (.pointer (some ⟨g1,0,none⟩)))),(9,(.tv kBool r1)),(12,(.eq v25)),(14,(.tv (kInt .i64) (Int.tmod (w64 one1) (x7.length:Int)))),(15,(.tv (kInt .i64) (Int.tmod (w64 two1) (x7.length:Int)))),(16,(.eq (.pointer (some ⟨g12,0,none⟩)))),(18,(.tv (kInt .i64) i9))] ⟨R,R,R,R,R,R,R,R,trivial⟩ (At.r ⟨(),hF,R,R⟩)
         ·rintro _ _ ⟨_,hF,rfl,rfl⟩
          unfold Vb.c4 at hF
          refine At.region (At.d R R R R (jb (x:=(.tv (kInt .i64) i9)) (ja R)) ?_)
          refine At.d R R R R (jk (ja R) (ji _ _) vf) ?_
          refine At.d R R R R (jd (x:=(.tv (kInt .i64) (w64 (i9+(1:Int))))) (ja R)) ?_
          refine At.done (At.vl ?_)
          refine At.w [0,1,2] R [(3,(.tv kStr id1)),(4,(.eq (.pointer (some ⟨g1,0,none⟩)))),(9,(.tv kBool r1)),(12,(.eq v25)),(14,(.tv (kInt .i64) (Int.tmod (w64 one1) (x7.length:Int)))),(15,(.tv (kInt .i64) (Int.tmod (w64 two1) (x7.length:Int)))),(16,(.eq (.pointer (some ⟨g12,0,none⟩)))),(18,(.tv (kInt .i64) (w64 (i9+(1:Int)))))] ⟨R,R,R,R,R,R,R,R,trivial⟩ (At.r ⟨(w64 (i9+(1:Int))),hF,R,R⟩)
        ·replace hF:=W.ite_f hb28 hF
         refine At.exit ?_
         refine At.x (At.x ?_)
         refine At.h ?_
         refine At.vl ?_
         refine At.w [0,1,2] R [(4,(.eq (.pointer (some ⟨g1,0,none⟩)))),(9,(.tv kBool r1)),(12,(.eq v25)),(14,(.tv (kInt .i64) (Int.tmod (w64 one1) (x7.length:Int)))),(15,(.tv (kInt .i64) (Int.tmod (w64 two1) (x7.length:Int)))),(16,(.eq (.pointer (some ⟨g12,0,none⟩))))] ⟨R,R,R,R,R,R,trivial⟩ (At.r ⟨(),hF,R,R⟩)
      ·rintro _ _ ⟨_,hF,rfl,rfl⟩
       unfold Vb.c3 at hF
       refine At.seq ?_
       refine At.draw mixed [0,1,2] R [[],[],[]] (fun φ w hgd=>?_)
       obtain ⟨hq29,hF⟩:=hF
       obtain ⟨hq30,hF⟩:=hF
       replace hF:=W.vq hF
       refine AtH.take [0,1,2] hgd 0 R R R R (D':=#[Y,N,N,N,N,N,N,N,N,N,N,N,N,N,N,N,N,N,N,N]) (by kernel_rfl) (fun _ _ _ _ h=>h) R (jb (x:=(.tv kBool r1)) (ja R)) ?_
       refine AtH.take [0,1,2] hgd 1 R R R R (D':=#[Y,Y,N,N,N,N,N,N,N,N,N,N,N,N,N,N,N,N,N,N]) (by kernel_rfl) (fun _ _ _ _ h=>h) R (jb (x:=(.tv kBool r1)) (ja R)) ?_
       refine AtH.vo [0,1,2] hgd 2 R R R (jw R) R R (D':=#[Y,Y,Y,N,N,N,N,N,N,N,N,N,N,N,N,N,N,N,N,N]) (by kernel_rfl) (fun _ _ _ _ h=>h) R (fun hg50=>(jc (ja R) 0 R (Sub.self kMap) ty_24)) ?_
       refine AtH.vo [0,1,2] hgd 3 R R R (jw R) R R (D':=#[Y,Y,Y,Y,N,N,N,N,N,N,N,N,N,N,N,N,N,N,N,N]) (by kernel_rfl) (fun _ _ _ _ h=>h) R (fun hg51=>(jb (x:=(.eq v25)) (ja R))) ?_
       refine AtH.vo [0,1,2] hgd 4 R R R (jw R) R R (D':=#[Y,Y,Y,Y,Y,N,N,N,N,N,N,N,N,N,N,N,N,N,N,N]) (by kernel_rfl) (fun _ _ _ _ h=>h) R (fun hg52=>(jb (x:=(.tv (kInt .i64) (Int.tmod (w64 one1) (x7.length:Int)))) (ja R))) ?_
       refine AtH.vo [0,1,2] hgd 5 R R R (jw R) R R (D':=#[Y,Y,Y,Y,Y,Y,N,N,N,N,N,N,N,N,N,N,N,N,N,N]) (by kernel_rfl) (fun _ _ _ _ h=>h) R (fun hg53=>(does_idx_row (jh R hg53) 1 R (jh R hg53) Tryz.underlying68 ty_37 (hq29 hg53))) ?_
       refine AtH.vo [0,1,2] hgd 6 R R R (jw R) R R (D':=#[Y,Y,Y,Y,Y,Y,Y,N,N,N,N,N,N,N,N,N,N,N,N,N]) (by kernel_rfl) (fun _ _ _ _ h=>h) R (fun hg54=>(Jh (jh R hg54) 1 R (Int.tmod (w64 one1) (x7.length:Int)) 0 R zPoint (hq29 hg54) (Sub.self kPoint) ty_37)) ?_
       refine AtH.vo [0,1,2] hgd 7 R R R (jw R) R R (D':=#[Y,Y,Y,Y,Y,Y,Y,Y,N,N,N,N,N,N,N,N,N,N,N,N]) (by kernel_rfl) (fun _ _ _ _ h=>h) R (fun hg55=>(jb (x:=(.eq v25)) (ja R))) ?_
       refine AtH.vo [0,1,2] hgd 8 R R R (jw R) R R (D':=#[Y,Y,Y,Y,Y,Y,Y,Y,Y,N,N,N,N,N,N,N,N,N,N,N]) (by kernel_rfl) (fun _ _ _ _ h=>h) R (fun hg56=>(jb (x:=(.tv (kInt .i64) (Int.tmod (w64 two1) (x7.length:Int)))) (ja R))) ?_
       refine AtH.vo [0,1,2] hgd 9 R R R (jw R) R R (D':=#[Y,Y,Y,Y,Y,Y,Y,Y,Y,Y,N,N,N,N,N,N,N,N,N,N]) (by kernel_rfl) (fun _ _ _ _ h=>h) R (fun hg57=>(does_idx_row (jh R hg57) 1 R (jh R hg57) Tryz.underlying68 ty_37 (hq30 hg57))) ?_
       refine AtH.vo [0,1,2] hgd 10 R R R (jw R) R R (D':=#[Y,Y,Y,Y,Y,Y,Y,Y,Y,Y,Y,N,N,N,N,N,N,N,N,N]) (by kernel_rfl) (fun _ _ _ _ h=>h) R (fun hg58=>(Jh (jh R hg58) 1 R (Int.tmod (w64 two1) (x7.length:Int)) 0 R zPoint (hq30 hg58) (Sub.self kPoint) ty_37)) ?_
       refine AtH.vo [0,1,2] hgd 11 R R R (jw R) R R (D':=#[Y,Y,Y,Y,Y,Y,Y,Y,Y,Y,Y,Y,N,N,N,N,N,N,N,N]) (by kernel_rfl) (fun _ _ _ _ h=>h) R (fun hg59=>(vd (jr (jh R hg59) (jr (jh R hg59) js)) zr_39 bd_39 R (fills_cons R Jf (fills_cons R Jg fills_nil)))) ?_
       refine AtH.vo [0,1,2] hgd 13 R R R (jw R) R R (D':=#[Y,Y,Y,Y,Y,Y,Y,Y,Y,Y,Y,Y,N,Y,N,N,N,N,N,N]) (by kernel_rfl) (fun _ _ _ _ h=>h) R (fun hg60=>(jc (ja R) 2 R (Sub.self kMap) ty_24)) ?_
       refine AtH.all1 12 (by kernel_rfl) ?_
       refine AtH.effG [(0,0),(1,1),(2,2)] R R R R R R R (jw R) (D':=#[Y,Y,Y,Y,Y,Y,Y,Y,Y,Y,Y,Y,Y,Y,N,N,N,N,N,N]) (by kernel_rfl) (by kernel_rfl) hF (fun r=>.tv kBool r) (fun _=>vp) (fun hg61 hF=>vr (jn R R jp (jq R en_18 (jf (jh R hg61) (jf (jh R hg61) jg))) (wt.ok hF) (by rintro _ _ ⟨r,_,rfl,_⟩;exact vp)) (by rintro _ _ ⟨_,_,⟨r,hF,rfl,rfl⟩,rfl,rfl⟩;exact ⟨r,hF,R,R⟩)) (fun r11 hF=>?_)
       replace hF:=W.vq hF
       refine AtH.all1 14 (by kernel_rfl) ?_
       refine AtH.effGv [(0,0),(1,1),(2,2)] R R R R R R R (jw R) (D':=#[Y,Y,Y,Y,Y,Y,Y,Y,Y,Y,Y,Y,Y,Y,Y,N,N,N,N,N]) (by kernel_rfl) (by kernel_rfl) hF (fun r=>.tv (kSlice kViolation) r) (fun hg62 hF=>eff_own1 R R (vr (jo R R (jq R en_16 (jf (jh R hg62) jg)) [] R (Jq.ok hF)) (by rintro _ _ ⟨_,_,⟨r,u,hF,rfl,rfl⟩,rfl,rfl⟩;exact ⟨r,u,hF,R,R⟩))) (fun r12 hF=>?_)
       refine AtH.all1 15 (by kernel_rfl) ?_
       refine AtH.doesGv [(0,0),(1,1),(2,2)] R R R R R R R (jw R) (D':=#[Y,Y,Y,Y,Y,Y,Y,Y,Y,Y,Y,Y,Y,Y,Y,Y,N,N,N,N]) (by kernel_rfl) (by kernel_rfl) R (fun hg64=>(jt (jh R hg64) Tryz.underlying33)) ?_
       refine AtH.all1 16 (by kernel_rfl) ?_
       refine AtH.doesGv [(0,0),(1,1),(2,2)] R R R R R R R (jw R) (D':=#[Y,Y,Y,Y,Y,Y,Y,Y,Y,Y,Y,Y,Y,Y,Y,Y,Y,N,N,N]) (by kernel_rfl) (by kernel_rfl) R (fun hg66=>(jk (jh R hg66) (ji _ _) bin_eql)) ?_
       refine AtH.all1 17 (by kernel_rfl) ?_
       refine AtH.doesGv [(0,0),(1,1),(2,2)] R R R R R R R (jw R) (D':=#[Y,Y,Y,Y,Y,Y,Y,Y,Y,Y,Y,Y,Y,Y,Y,Y,Y,Y,N,N]) (by kernel_rfl) (by kernel_rfl) R (fun hg68=>(jk (jh R hg68) (jh R hg68) (bin_beql (by kernel_rfl)))) ?_
       refine AtH.all1 18 (by kernel_rfl) ?_
       refine AtH.f [(0,0),(1,1),(2,2)] R R R R R R (eff_does R R R (jm (ja R) (ja R) (jl _) vh)) (D':=#[Y,Y,Y,Y,Y,Y,Y,Y,Y,Y,Y,Y,Y,Y,Y,Y,Y,Y,Y,N]) (by kernel_rfl) (by kernel_rfl) ?_
       rintro _ _ ⟨rfl,rfl⟩
       refine ⟨.any,.inl R,?_⟩
       refine AtH.all1 19 (by kernel_rfl) ?_
       refine AtH.f [(0,0),(1,1),(2,2)] R R R R R R (eff_does R R R (jd (x:=(.tv kBool (r1&&(r11==((r12.length:Int)==(0:Int)))))) (ja R))) (D':=#[Y,Y,Y,Y,Y,Y,Y,Y,Y,Y,Y,Y,Y,Y,Y,Y,Y,Y,Y,Y]) (by kernel_rfl) (by kernel_rfl) ?_
       rintro _ _ ⟨rfl,rfl⟩
       refine ⟨.any,.inl R,?_⟩
       refine AtH.done (by kernel_rfl) ?_
       refine At.vl (At.ret ?_)
       exact At.j rfl (rv_tmp rfl) [] rfl ⟨(r1&&(r11==((r12.length:Int)==(0:Int)))),hF,rfl,rfl⟩
end Go.Gp.Gb
end
section
set_option linter.unusedVariables false
set_option linter.unusedSimpArgs false
set_option maxRecDepth 100000
namespace Go.Proofs.YtfophhmfbofjiaaGreat.borderFree
open Go.ChangeShapes Go.WideShapes Go.ChangeAt Go.RowKit Go.Gp Go.Gp.Gb
theorem own:ownKnob Tryz.prog.godebug=none:=by kernel_rfl
theorem laidOut:laidOutB Tryz.prog=true:=by kernel_rfl
set_option maxRecDepth 100000 in
theorem lifted (pure:∀ (x0:Map) (x1:Int) (x2:Int) (x3:ByteArray),ok_Map x0→(okI .u8) x1→(okI .u8) x2→okS x3→Vb.F x0 x1 x2 x3 (fun r=>r=true)) (os:Os) (started:os.Started) (H:Type) (enc:TypeId×Value→H) :
  ReturnsInHanded {} Tryz.checked os 9 .any (Rows.borderFreeSpec.pre6 enc Tryz.prog Tryz.f9 Rows.borderFreeRow.domain false) (Rows.borderFreeSpec.post enc Tryz.prog Tryz.f9 false true false false):=by
 refine returnsInHanded_of_change (C:=Tryz.checked) own started (by kernel_rfl) Tryz.func9
  (ChangeSpec.witness6 (enc:=enc) (C:=Tryz.checked) false ⟨#[],#[.agg #[.slice none 0 0],.int .u8 0,.int .u8 0,.string ⟨#[]⟩],[]⟩ 8 (by kernel_rfl) (by kernel_rfl) (by kernel_rfl) (by kernel_rfl)) ?_
 intro W base args ds gs before hval0 hW hcnd _
 have hval:∀ (j:Nat) t v,Tryz.f9.params[j]?=some t→args[j]?=some v→Value.okWide Tryz.prog W .any base t v:=hval0
 have hW':=hW
 obtain ⟨p,q,hA0,hV,rfl,hfz,hnd⟩:=hW
 have hA:DataW.TrodAll enc Tryz.prog W 0 (fun _=>true) true Tryz.f9.params.toList args.toList ds p:=hA0
 rw [Tryz.params9] at hA hval
 obtain ⟨v0,vs0,d0,ds0,p0,q0,hargs,rfl,rfl,h0,r0⟩:=trodAll_cons hA
 obtain ⟨v1,vs1,d1,ds1,p1,q1,rfl,rfl,rfl,h1,r1⟩:=trodAll_cons r0
 obtain ⟨v2,vs2,d2,ds2,p2,q2,rfl,rfl,rfl,h2,r2⟩:=trodAll_cons r1
 obtain ⟨v3,vs3,d3,ds3,p3,q3,rfl,rfl,rfl,h3,r3⟩:=trodAll_cons r2
 obtain ⟨rfl,rfl,rfl⟩:=trodAll_nil r3
 obtain rfl:args=#[v0,v1,v2,v3]:=by cases args;simp_all
 obtain ⟨rfl,rfl⟩:=trodVars_none hV
 obtain ⟨x0,hx0,ok0⟩:=opens_arg op_24 h0 (let ⟨cs,e,_⟩:=okWide_struct Tryz.underlying24 (hval 0 24 v0 rfl rfl);⟨cs,e⟩)
 have lt0:∀ x∈p0,x.block<W.heap.size:=by obtain ⟨m,hm⟩:=h0;exact DataW.trod_lt m _ _ _ hm
 obtain ⟨x1,hx1,ok1⟩:=opens_arg (opens_int Tryz.underlying5) h1 (by obtain ⟨n,rfl⟩:=okWide_int Tryz.underlying5 (hval 1 5 v1 rfl rfl);rfl)
 have lt1:∀ x∈p1,x.block<W.heap.size:=by obtain ⟨m,hm⟩:=h1;exact DataW.trod_lt m _ _ _ hm
 obtain ⟨x2,hx2,ok2⟩:=opens_arg (opens_int Tryz.underlying5) h2 (by obtain ⟨n,rfl⟩:=okWide_int Tryz.underlying5 (hval 2 5 v2 rfl rfl);rfl)
 have lt2:∀ x∈p2,x.block<W.heap.size:=by obtain ⟨m,hm⟩:=h2;exact DataW.trod_lt m _ _ _ hm
 obtain ⟨x3,hx3,ok3⟩:=opens_arg (opens_str Tryz.underlying9) h3 (by obtain ⟨n,rfl⟩:=okWide_string Tryz.underlying9 (hval 3 9 v3 rfl rfl);rfl)
 have lt3:∀ x∈p3,x.block<W.heap.size:=by obtain ⟨m,hm⟩:=h3;exact DataW.trod_lt m _ _ _ hm
 refine (law_walk (Vb.ok (pure x0 x1 x2 x3 ok0 ok1 ok2 ok3)) (.cons hx0 (.cons hx1 (.cons hx2 (.cons hx3 .nil))))).mono fun e W' ⟨he,bel⟩=>?_
 subst he
 exact ⟨_,rfl,_,_,_,[],_,[],hW',trodAll_mk1 (shut_bool Tryz.underlying4 _),(trodAll_cons_mk (Below.trod laidOut (by kernel_rfl) (of_decide_eq_true (by kernel_rfl)) h0 bel lt0) (trodAll_cons_mk (Below.trod laidOut (by kernel_rfl) (of_decide_eq_true (by kernel_rfl)) h1 bel lt1) (trodAll_cons_mk (Below.trod laidOut (by kernel_rfl) (of_decide_eq_true (by kernel_rfl)) h2 bel lt2) (trodAll_cons_mk (Below.trod laidOut (by kernel_rfl) (of_decide_eq_true (by kernel_rfl)) h3 bel lt3) trodAll_mk0)))),rfl,bel.frame _,fun h=>by cases h⟩
theorem over (pure:∀ (x0:Map) (x1:Int) (x2:Int) (x3:ByteArray),ok_Map x0→(okI .u8) x1→(okI .u8) x2→okS x3→Vb.F x0 x1 x2 x3 (fun r=>r=true)):Rows.borderFreeRow.holds Tryz.pinned (OpenSpec.ofChange Rows.borderFreeSpec):=
 OpenClaim.holds_of_wide 9 Tryz.f9 rfl rfl rfl rfl rfl rfl rfl ⟨rfl,rfl,rfl,rfl,rfl⟩ rfl rfl rfl rfl rfl (by kernel_rfl) Tryz.func9 (by kernel_rfl)
  (of_decide_eq_true (by kernel_rfl)) (by unfold Func.isWrapper;first | (rw [if_pos (by decide +kernel)];kernel_rfl) | (rw [if_neg (by decide +kernel)];exact ⟨rfl,rfl⟩))
  (fun os started H enc _=>lifted pure os started H enc)
end Go.Proofs.YtfophhmfbofjiaaGreat.borderFree
end
section
set_option linter.unusedVariables false
set_option linter.unusedSimpArgs false
namespace Go.Gp
theorem W.ite_iff {α:Type} {b:Bool} {x y:W α} {Q:α→Prop}:W.ite b x y Q↔(b=true→x Q)∧(b=false→y Q):=by
 cases b<;>simp [W.ite]
theorem W.ite_i {α:Type} {b:Bool} {x y:W α} {Q:α→Prop} (h1:b=true→x Q) (h2:b=false→y Q):W.ite b x y Q:=W.ite_iff.2 ⟨h1,h2⟩
theorem W.dec_i {α:Type} {p:Prop} [Decidable p] {x y:W α} {Q:α→Prop} (h1:p→x Q) (h2:¬ p→y Q):W.ite (decide p) x y Q:=W.ite_iff.2 ⟨fun h=>h1 (of_decide_eq_true h),fun h=>h2 (of_decide_eq_false h)⟩
theorem W.req_i {α:Type} {p:Prop} {m:W α} {Q:α→Prop} (h1:p) (h2:m Q):W.req p m Q:=⟨h1,h2⟩
theorem W.bind_i {α β:Type} {m:W α} {f:α→W β} {Q:β→Prop} (h:m (fun x=>f x Q)):W.bind m f Q:=h
theorem W.ite_same {α:Type} {b:Bool} {x y:W α} {Q:α→Prop} (h1:x Q) (h2:y Q):W.ite b x y Q:=W.ite_i (fun _=>h1) (fun _=>h2)
theorem W.loop1 {A R:Type} {B:(A→W R)→A→W R} {Q:R→Prop} (I:A→Prop) (m:A→Nat) (step:∀ K x,I x→(∀ y,I y→m y<m x→K y Q)→B K x Q) {x:A} (h:I x):(W.ex fun n=>W.iter1 B n x) Q:=by
 have key:∀ n x,I x→m x<n→W.iter1 B n x Q:=by
  intro n
  induction n with
  | zero=>intro x _ hm;omega
  | succ n ih=>intro x hx hm;exact step _ x hx fun y hy hlt=>ih y hy (by omega)
 exact ⟨m x+1,key _ x h (by omega)⟩
theorem W.loop2 {A C R:Type} {B:(A→C→W R)→A→C→W R} {Q:R→Prop} (I:A→C→Prop) (m:A→C→Nat) (step:∀ K x u,I x u→(∀ y v,I y v→m y v<m x u→K y v Q)→B K x u Q) {x:A} {u:C} (h:I x u):(W.ex fun n=>W.iter2 B n x u) Q:=by
 have key:∀ n x u,I x u→m x u<n→W.iter2 B n x u Q:=by
  intro n
  induction n with
  | zero=>intro x u _ hm;omega
  | succ n ih=>intro x u hx hm;exact step _ x u hx fun y v hy hlt=>ih y v hy (by omega)
 exact ⟨m x u+1,key _ x u h (by omega)⟩
theorem W.loop3 {A C D R:Type} {B:(A→C→D→W R)→A→C→D→W R} {Q:R→Prop} (I:A→C→D→Prop) (m:A→C→D→Nat) (step:∀ K x u s,I x u s→(∀ y v t,I y v t→m y v t<m x u s→K y v t Q)→B K x u s Q) {x:A} {u:C} {s:D} (h:I x u s):(W.ex fun n=>W.iter3 B n x u s) Q:=by
 have key:∀ n x u s,I x u s→m x u s<n→W.iter3 B n x u s Q:=by
  intro n
  induction n with
  | zero=>intro x u s _ hm;omega
  | succ n ih=>intro x u s hx hm;exact step _ x u s hx fun y v t hy hlt=>ih y v t hy (by omega)
 exact ⟨m x u s+1,key _ x u s h (by omega)⟩
theorem W.up1 {R:Type} {B:(Int→W R)→Int→W R} {Q:R→Prop} (n:Nat) (I:Nat→Prop) (h0:I 0) (step:∀ (K:Int→W R) (i:Nat),i≤n→I i→(i<n→I (i+1)→K ((i+1:Nat):Int) Q)→B K (i:Int) Q):(W.ex fun m=>W.iter1 B m (0:Int)) Q:=
 W.loop1 (fun x:Int=>∃ i:Nat,x=(i:Int)∧i≤n∧I i) (fun x=>n-x.toNat) (fun K x ⟨i,e,hi,hI⟩ hk=>by
  subst e
  exact step K i hi hI fun hl hI2=>hk _ ⟨i+1,rfl,hl,hI2⟩ (by omega)) ⟨0,rfl,Nat.zero_le _,h0⟩
theorem W.up2 {S R:Type} {B:(S→Int→W R)→S→Int→W R} {Q:R→Prop} (n:Nat) (I:Nat→S→Prop) {s0:S} (h0:I 0 s0) (step:∀ (K:S→Int→W R) (i:Nat) (s:S),i≤n→I i s→(i<n→∀ s',I (i+1) s'→K s' ((i+1:Nat):Int) Q)→B K s (i:Int) Q):(W.ex fun m=>W.iter2 B m s0 (0:Int)) Q:=
 W.loop2 (fun s (x:Int)=>∃ i:Nat,x=(i:Int)∧i≤n∧I i s) (fun s x=>n-x.toNat) (fun K s x ⟨i,e,hi,hI⟩ hk=>by
  subst e
  exact step K i s hi hI fun hl s' hI2=>hk s' _ ⟨i+1,rfl,hl,hI2⟩ (by omega)) ⟨0,rfl,Nat.zero_le _,h0⟩
theorem W.up3 {S T R:Type} {B:(S→T→Int→W R)→S→T→Int→W R} {Q:R→Prop} (n:Nat) (I:Nat→S→T→Prop) {s0:S} {t0:T} (h0:I 0 s0 t0) (step:∀ (K:S→T→Int→W R) (i:Nat) (s:S) (t:T),i≤n→I i s t→(i<n→∀ s' t',I (i+1) s' t'→K s' t' ((i+1:Nat):Int) Q)→B K s t (i:Int) Q):(W.ex fun m=>W.iter3 B m s0 t0 (0:Int)) Q:=
 W.loop3 (fun s t (x:Int)=>∃ i:Nat,x=(i:Int)∧i≤n∧I i s t) (fun s t x=>n-x.toNat) (fun K s t x ⟨i,e,hi,hI⟩ hk=>by
  subst e
  exact step K i s t hi hI fun hl s' t' hI2=>hk s' t' _ ⟨i+1,rfl,hl,hI2⟩ (by omega)) ⟨0,rfl,Nat.zero_le _,h0⟩
theorem w64_id {x:Int} (h1:-9223372036854775808≤x) (h2:x≤9223372036854775807):w64 x=x:=by
 simp [w64,IntKind.wrap,IntKind.bits,IntKind.signed]
 omega
theorem w64_succ {i:Nat} (h:i<9223372036854775807):w64 ((i:Int)+(1:Int))=((i+1:Nat):Int):=by
 rw [w64_id (by omega) (by omega)];omega
theorem maxLen_val:maxLen=9223372036854775807:=rfl
theorem bl_irr:∀ a:List UInt8,Op.bytesLess a a=false
 | []=>rfl
 | x::a=>by simp [Op.bytesLess,bl_irr a]
theorem bl_trans:∀ a b c:List UInt8,Op.bytesLess a b=true→Op.bytesLess b c=true→Op.bytesLess a c=true
 | _,[],_,h,_=>by simp [Op.bytesLess] at h
 | _,_::_,[],_,h=>by simp [Op.bytesLess] at h
 | [],_::_,_::_,_,_=>rfl
 | x::a,y::b,z::c,h,k=>by
  simp only [Op.bytesLess,Bool.or_eq_true,decide_eq_true_eq,Bool.and_eq_true,beq_iff_eq] at h k ⊢
  rcases h with h | ⟨rfl,h⟩
  ·rcases k with k | ⟨rfl,k⟩
   ·exact .inl (UInt8.lt_trans h k)
   ·exact .inl h
  ·rcases k with k | ⟨rfl,k⟩
   ·exact .inl k
   ·exact .inr ⟨rfl,bl_trans a b c h k⟩
theorem bl_tri:∀ a b:List UInt8,Op.bytesLess a b=true∨a=b∨Op.bytesLess b a=true
 | [],[]=>.inr (.inl rfl)
 | [],_::_=>.inl rfl
 | _::_,[]=>.inr (.inr rfl)
 | x::a,y::b=>by
  simp only [Op.bytesLess,Bool.or_eq_true,decide_eq_true_eq,Bool.and_eq_true,beq_iff_eq]
  rcases Nat.lt_trichotomy x.toNat y.toNat with h | h | h
  ·exact .inl (.inl (UInt8.lt_iff_toNat_lt.2 h))
  ·have e:x=y:=UInt8.toNat_inj.1 h
   subst e
   rcases bl_tri a b with h | rfl | h
   ·exact .inl (.inr ⟨rfl,h⟩)
   ·exact .inr (.inl rfl)
   ·exact .inr (.inr (.inr ⟨rfl,h⟩))
  ·exact .inr (.inr (.inl (UInt8.lt_iff_toNat_lt.2 h)))
theorem sLt_irr (a:ByteArray):sLt a a=false:=bl_irr _
theorem sLt_trans {a b c:ByteArray} (h:sLt a b=true) (k:sLt b c=true):sLt a c=true:=bl_trans _ _ _ h k
theorem sEq_eq {a b:ByteArray}:(sEq a b=true)=(a=b):=propext (sEq_iff a b)
theorem sEq_self (a:ByteArray):sEq a a=true:=(sEq_iff a a).2 rfl
theorem sEq_false {a b:ByteArray}:(sEq a b=false)=(a≠b):=by
 rw [← Bool.not_eq_true,sEq_eq]
theorem toList_inj {a b:ByteArray} (h:a.toList=b.toList):a=b:=(sEq_iff a b).1 (by simp [sEq,h])
theorem sLt_tri (a b:ByteArray):sLt a b=true∨a=b∨sLt b a=true:=by
 rcases bl_tri a.toList b.toList with h | h | h
 ·exact .inl h
 ·exact .inr (.inl (toList_inj h))
 ·exact .inr (.inr h)
theorem sLt_asymm {a b:ByteArray} (h:sLt a b=true):sLt b a=false:=by
 cases k:sLt b a with
 | false=>rfl
 | true=>have:=sLt_trans h k;rw [sLt_irr] at this;cases this
theorem sLt_ne {a b:ByteArray} (h:sLt a b=true):a≠b:=fun e=>by rw [e,sLt_irr] at h;cases h
theorem sLe_not {a b:ByteArray}:((sLt b a||sEq b a)=false)=(sLt a b=true):=by
 apply propext
 rw [Bool.or_eq_false_iff,sEq_false]
 constructor
 ·rintro ⟨h1,h2⟩
  rcases sLt_tri a b with h | h | h
  ·exact h
  ·exact absurd h.symm h2
  ·rw [h1] at h;cases h
 ·intro h
  exact ⟨sLt_asymm h,fun e=>sLt_ne h e.symm⟩
theorem sLe_is {a b:ByteArray}:((sLt b a||sEq b a)=true)=(sLt a b=false):=by
 apply propext
 rw [← Bool.not_eq_false,sLe_not,Bool.not_eq_true]
theorem sLe_eq {a b:ByteArray}:(sLt a b||sEq a b)=!(sLt b a):=by
 cases h:sLt b a with
 | true=>exact sLe_not.mpr h
 | false=>exact sLe_is.mpr h
theorem size_toList (a:ByteArray):a.toList=a.data.toList:=ByteArray.toList_eq a
theorem sLt_empty {a:ByteArray} (h:a≠⟨#[]⟩):sLt ⟨#[]⟩ a=true:=by
 rcases sLt_tri ⟨#[]⟩ a with k | k | k
 ·exact k
 ·exact absurd k.symm h
 ·exfalso
  unfold sLt at k
  have e:(⟨#[]⟩:ByteArray).toList=[]:=by rw [size_toList]
  rw [e] at k
  cases hh:a.toList<;>rw [hh] at k<;>cases k
theorem rd_nat {α:Type} {z:α} {xs:List α} {i:Nat} (h:i<xs.length):rd z xs (i:Int)=xs[i]:=by
 simp [rd,h]
theorem mget_mset {κ ν:Type} [DecidableEq κ] (k k':κ) (z v:ν):∀ m:List (κ×ν),mget k z (mset k' v m)=if k'=k then v else mget k z m
 | []=>by simp only [mset,mget]
 | (a,x)::m=>by
  simp only [mset]
  by_cases h:a=k'
  ·subst h
   by_cases h2:a=k
   ·simp [mget,h2]
   ·simp [mget,h2]
  ·simp only [if_neg h,mget,mget_mset k k' z v m]
   by_cases h2:a=k
   ·subst h2;simp [Ne.symm h]
   ·simp [h2]
end Go.Gp
end
section
set_option linter.unusedVariables false
set_option linter.unusedSimpArgs false
set_option maxRecDepth 10000
namespace Go.Gp.Gb
def isLetter (b:Int):Bool:=decide (97≤b)&&decide (b≤122)||decide (65≤b)&&decide (b≤90)
def isDigit (b:Int):Bool:=decide (48≤b)&&decide (b≤57)
def isWord (b:Int):Bool:=isLetter b||isDigit b||b==95
def NameOk (s:ByteArray):Prop:=0<s.size∧s.size≤24∧isLetter (byteAt s 0)=true∧∀ i,i<s.size→isWord (byteAt s (i:Int))=true
theorem byteAt_range (s:ByteArray) (i:Int):0≤byteAt s i∧byteAt s i<256:=by
 unfold byteAt
 split
 ·rename_i b _
  have:=b.toNat_lt
  omega
 ·omega
theorem ref08_word_spec {c:Int} {Q:Bool→Prop} (h:Q (isWord c)):ref08_word.F c Q:=by
 show W.bind (W.ite (!(isLetter c)) (ja8.F c) (W.ret false)) (fun r2=>W.ret ((isLetter c||r2)||(c==(95:Int)))) Q
 refine W.ite_i (fun hl=>?_) (fun hl=>?_)
 ·exact h
 ·have e:isLetter c=true:=by simpa using hl
  show Q ((isLetter c||false)||(c==(95:Int)))
  have:isWord c=((isLetter c||false)||(c==(95:Int))):=by simp [isWord,e]
  rwa [this] at h
theorem ref08_Name_spec {s:ByteArray} (hs:s.size≤maxLen) {Q:Bool→Prop} (h1:NameOk s→Q true) (h2:¬ NameOk s→Q false):qw.F s Q:=by
 rw [maxLen_val] at hs
 refine W.up1 s.size (fun i=>∀ j,j<i→isWord (byteAt s (j:Int))=true) (fun j h=>by omega) (fun K i hi hI hk=>?_)
 refine W.dec_i (fun hlt=>W.req_i ⟨by omega,hlt⟩ (ref08_word_spec ?_)) (fun hge=>?_)
 ·refine W.ite_i (fun hw=>?_) (fun hw=>?_)
  ·exact h2 fun hn=>by
    have:=hn.2.2.2 i (by omega)
    rw [this] at hw;cases hw
  ·rw [w64_succ (by omega)]
   refine hk (by omega) fun j hj=>?_
   by_cases e:j=i
   ·subst e;simpa using hw
   ·exact hI j (by omega)
 ·have hie:i=s.size:=by omega
  subst hie
  refine W.req_i (fun hb=>by simp only [Bool.and_eq_true,decide_eq_true_eq] at hb;omega) ?_
  refine W.ite_i (fun hb=>?_) (fun hb=>?_)
  ·simp only [Bool.and_eq_true,decide_eq_true_eq] at hb
   show Q (((decide ((0:Int)<(s.size:Int)))&&(decide ((s.size:Int)≤(24:Int))))&&isLetter (byteAt s 0))
   have e1:decide ((0:Int)<(s.size:Int))=true:=decide_eq_true hb.1
   have e2:decide ((s.size:Int)≤(24:Int))=true:=decide_eq_true hb.2
   rw [e1,e2,Bool.true_and,Bool.true_and]
   cases hl:isLetter (byteAt s 0) with
   | true=>exact h1 ⟨by omega,by omega,hl,hI⟩
   | false=>exact h2 fun hn=>by rw [hn.2.2.1] at hl;cases hl
  ·show Q (((decide ((0:Int)<(s.size:Int)))&&(decide ((s.size:Int)≤(24:Int))))&&false)
   rw [Bool.and_false]
   exact h2 fun hn=>by
    have:(decide ((0:Int)<(s.size:Int))&&decide ((s.size:Int)≤(24:Int)))=true:=by simp only [Bool.and_eq_true,decide_eq_true_eq];have:=hn.1;have:=hn.2.1;omega
    rw [this] at hb;cases hb
structure Cls (x:List Int) (n:Nat):Prop where
 len:x.length=256
 old:∀ j:Nat,j<n→(rd 0 x (j:Int)=3↔isLetter j=true)∧(rd 0 x (j:Int)=4↔isDigit j=true)∧rd 0 x (j:Int)≠5
theorem rd_set {α:Type} {z v:α} {x:List α} {i j:Nat} (hi:i<x.length):rd z (x.set i v) (j:Int)=if j=i then v else rd z x (j:Int):=by
 simp only [rd,Int.toNat_natCast,List.getD_eq_getElem?_getD,List.getElem?_set]
 by_cases e:i=j
 ·subst e;simp [hi]
 ·rw [if_neg e,if_neg (fun h=>e h.symm)]
theorem Cls.set {x:List Int} {n:Nat} (h:Cls x n) (hn:n<256) {v:Int} (h1:v=3↔isLetter n=true) (h2:v=4↔isDigit n=true) (h3:v≠5):Cls (x.set n v) (n+1):=by
 refine ⟨by rw [List.length_set];exact h.len,fun j hj=>?_⟩
 rw [rd_set (by rw [h.len];exact hn)]
 by_cases e:j=n
 ·subst e;rw [if_pos rfl];exact ⟨h1,h2,h3⟩
 ·rw [if_neg e];exact h.old j (by omega)
theorem rd_rep {α:Type} {z:α} (n:Nat) (i:Int):rd z (List.replicate n z) i=z:=by
 simp only [rd,List.getD_eq_getElem?_getD,List.getElem?_replicate]
 split<;>rfl
structure ClsOk (x:List Int):Prop where
 len:x.length=256
 is:∀ c:Int,0≤c→c<256→(rd 0 x c=3↔isLetter c=true)∧(rd 0 x c=4↔isDigit c=true)∧(rd 0 x c=5↔c=95)
theorem wrap_u8 {x:Int} (h0:0≤x) (h1:x<256):IntKind.wrap .u8 x=x:=by
 simp [IntKind.wrap,IntKind.bits,IntKind.signed]
 omega
theorem letter_not_digit (c:Int) (h:isLetter c=true):isDigit c=false:=by
 simp only [isLetter,isDigit,Bool.or_eq_true,Bool.and_eq_true,decide_eq_true_eq,Bool.and_eq_false_iff,decide_eq_false_iff_not] at h ⊢
 omega
theorem lexer_classes_spec {Q:List Int→Prop} (h:∀ x,ClsOk x→Q x):Vu.F Q:=by
 refine W.up2 256 (fun n x=>Cls x n∧∀ j:Nat,n≤j→j<256→rd 0 x (j:Int)=0) ⟨⟨by simp,fun j h=>by omega⟩,fun j _ hj=>rd_rep _ _⟩ (fun K n x hn hI hk=>?_)
 obtain ⟨hI,hz⟩:=hI
 refine W.dec_i (fun hlt=>?_) (fun hge=>?_)
 ·have hn2:n<256:=by omega
  have hw:IntKind.wrap .u8 (n:Int)=(n:Int):=wrap_u8 (by omega) (by omega)
  have hrest:∀ (v:Int) ,∀ j:Nat,n+1≤j→j<256→rd 0 (x.set n v) (j:Int)=0:=fun v j h1 h2=>by
   rw [rd_set (by rw [hI.len];exact hn2),if_neg (by omega)];exact hz j (by omega) h2
  have key:∀ b:Bool,(b=true→isLetter n=true)→(b=false→isLetter n=false)→Vu.c2 x (n:Int) K b Q:=by
   intro b hb1 hb2
   refine W.ite_i (fun hb=>?_) (fun hb=>?_)
   ·refine W.req_i ⟨by omega,hlt⟩ ?_
    rw [w64_succ (by omega)]
    refine hk hn2 _ ⟨hI.set hn2 (by simp [hb1 hb]) (by simp [letter_not_digit _ (hb1 hb)]) (by decide),hrest 3⟩
   ·have hl:=hb2 hb
    rw [hw]
    refine W.ite_i (fun hd=>?_) (fun hd=>?_)
    ·refine W.req_i ⟨by omega,hlt⟩ ?_
     rw [w64_succ (by omega)]
     exact hk hn2 _ ⟨hI.set hn2 (by simp [hl]) (by simp [isDigit];simpa using hd) (by decide),hrest 4⟩
    ·have hdd:isDigit n=false:=hd
     refine W.ite_i (fun _=>?_) (fun _=>?_)
     ·refine W.req_i ⟨by omega,hlt⟩ ?_
      rw [w64_succ (by omega)]
      exact hk hn2 _ ⟨hI.set hn2 (by simp [hl]) (by simp [hdd]) (by decide),hrest 1⟩
     ·refine W.ite_i (fun _=>?_) (fun _=>?_)
      ·refine W.req_i ⟨by omega,hlt⟩ ?_
       rw [w64_succ (by omega)]
       exact hk hn2 _ ⟨hI.set hn2 (by simp [hl]) (by simp [hdd]) (by decide),hrest 6⟩
      ·rw [w64_succ (by omega)]
       refine hk hn2 _ ⟨⟨hI.len,fun j hj=>?_⟩,fun j h1 h2=>hz j (by omega) h2⟩
       by_cases e:j=n
       ·subst e;rw [hz j (Nat.le_refl _) hn2];simp [hl,hdd]
       ·exact hI.old j (by omega)
  rw [hw]
  refine W.ite_i (fun h1=>key _ (fun _=>by simp only [isLetter,h1,Bool.true_or]) (fun h2=>by rw [h1] at h2;cases h2)) (fun h1=>key _ (fun h2=>by simp only [isLetter,h2,Bool.or_true]) (fun h2=>by simp only [isLetter,h1,h2,Bool.or_false]))
 ·have hne:n=256:=by omega
  subst hne
  refine W.req_i (by omega) (W.req_i (by omega) (W.req_i (by omega) (h _ ⟨?_,fun c h0 h1=>?_⟩)))
  ·simp [yi,hI.len]
  ·obtain ⟨k,rfl⟩:=Int.eq_ofNat_of_zero_le h0
   have hk2:k<256:=by omega
   simp only [yi]
   rw [show (34:Int).toNat=34 from rfl,show (95:Int).toNat=95 from rfl,show (35:Int).toNat=35 from rfl,rd_set (by simp [hI.len]),rd_set (by simp [hI.len]),rd_set (by simp [hI.len])]
   have ho:=hI.old k hk2
   by_cases e1:k=34
   ·subst e1;simp [isLetter,isDigit]
   ·rw [if_neg e1]
    by_cases e2:k=95
    ·subst e2;simp [isLetter,isDigit]
    ·rw [if_neg e2]
     by_cases e3:k=35
     ·subst e3;simp [isLetter,isDigit]
     ·rw [if_neg e3]
      exact ⟨ho.1,ho.2.1,⟨fun hh=>absurd hh ho.2.2,fun hh=>absurd hh (by omega)⟩⟩
theorem size_zero {s:ByteArray} (h:s.size=0):s=⟨#[]⟩:=by
 apply toList_inj
 rw [size_toList,size_toList]
 exact List.eq_nil_of_length_eq_zero (by rw [Array.length_toList];exact h)
theorem lexer_Name_spec {s:ByteArray} (hs:s.size≤maxLen) {Q:Bool→Prop} (h1:NameOk s→Q true) (h2:¬ NameOk s→Q false):qu.F s Q:=by
 rw [maxLen_val] at hs
 refine lexer_classes_spec fun x hx=>?_
 refine W.up1 s.size (fun i=>(∀ j,j<i→isWord (byteAt s (j:Int))=true)∧(0<i→isLetter (byteAt s 0)=true)) ⟨fun j h=>by omega,fun h=>by omega⟩ (fun K i hi hI hk=>?_)
 refine W.dec_i (fun hlt=>W.req_i ⟨by omega,hlt⟩ (W.req_i (byteAt_range _ _) ?_)) (fun hge=>?_)
 ·have hc:=hx.is (byteAt s (i:Int)) (byteAt_range _ _).1 (byteAt_range _ _).2
  have a1:zr x (byteAt s (i:Int))=rd 0 x (byteAt s (i:Int)):=rfl
  refine W.ite_i (fun hw=>?_) (fun hw=>?_)
  ·refine h2 fun hn=>?_
   simp only [a1,Bool.and_eq_true,Bool.or_eq_true,bne_iff_ne,ne_eq,beq_iff_eq,hc.1,hc.2.1,hc.2.2] at hw
   obtain ⟨g1,g2⟩:=hw
   have hwd:=hn.2.2.2 i (by omega)
   rcases g2 with g2 | ⟨g2,g3⟩
   ·have e:i=0:=by omega
    subst e
    exact g1 hn.2.2.1
   ·simp only [isWord,Bool.or_eq_true,beq_iff_eq] at hwd
    rcases hwd with (hwd | hwd) | hwd
    ·exact g1 hwd
    ·exact g2 hwd
    ·exact g3 hwd
  ·rw [w64_succ (by omega)]
   simp only [a1,Bool.and_eq_false_iff,Bool.or_eq_false_iff,bne_eq_false_iff_eq,beq_eq_false_iff_ne,ne_eq,hc.1,hc.2.1,hc.2.2] at hw
   have hword:isWord (byteAt s (i:Int))=true:=by
    simp only [isWord,Bool.or_eq_true,beq_iff_eq]
    rcases hw with hw | ⟨_,hw | hw⟩
    ·exact .inl (.inl hw)
    ·exact .inl (.inr hw)
    ·exact .inr hw
   refine hk (by omega) ⟨fun j hj=>?_,fun _=>?_⟩
   ·by_cases e:j=i
    ·subst e;exact hword
    ·exact hI.1 j (by omega)
   ·by_cases e:i=0
    ·subst e
     rcases hw with hw | ⟨hw,_⟩
     ·exact hw
     ·exact absurd rfl hw
    ·exact hI.2 (by omega)
 ·have hie:i=s.size:=by omega
  subst hie
  have e0:(!(sEq s (⟨#[]⟩:ByteArray)))=decide (0<s.size):=by
   by_cases e:s=⟨#[]⟩
   ·subst e;rw [sEq_self];rfl
   ·have:sEq s ⟨#[]⟩=false:=by rw [sEq_false];exact e
    rw [this]
    have hp:0<s.size:=Nat.pos_of_ne_zero fun h0=>e (size_zero h0)
    rw [decide_eq_true hp];rfl
  show Q ((!(sEq s (⟨#[]⟩:ByteArray)))&&(decide ((s.size:Int)≤(24:Int))))
  rw [e0]
  by_cases hp:0<s.size
  ·by_cases hq:s.size≤24
   ·have:(decide (0<s.size)&&decide ((s.size:Int)≤(24:Int)))=true:=by simp only [Bool.and_eq_true,decide_eq_true_eq];omega
    rw [this]
    exact h1 ⟨hp,hq,hI.2 hp,hI.1⟩
   ·have:(decide (0<s.size)&&decide ((s.size:Int)≤(24:Int)))=false:=by simp only [Bool.and_eq_false_iff,decide_eq_false_iff_not];omega
    rw [this]
    exact h2 fun hn=>hq hn.2.1
  ·have:(decide (0<s.size)&&decide ((s.size:Int)≤(24:Int)))=false:=by simp only [Bool.and_eq_false_iff,decide_eq_false_iff_not];omega
   rw [this]
   exact h2 fun hn=>hp hn.1
theorem lexer_Name_b {s:ByteArray} (hs:s.size≤maxLen) {Q:Bool→Prop} (h:∀ b,(b=true↔NameOk s)→Q b):qu.F s Q:=lexer_Name_spec hs (fun k=>h true (by simp [k])) (fun k=>h false (by simp [k]))
theorem ref08_Name_b {s:ByteArray} (hs:s.size≤maxLen) {Q:Bool→Prop} (h:∀ b,(b=true↔NameOk s)→Q b):qw.F s Q:=ref08_Name_spec hs (fun k=>h true (by simp [k])) (fun k=>h false (by simp [k]))
structure TagsOk (l:List Tag):Prop where
 few:l.length≤60
 each:∀ i:Nat,i<l.length→NameOk (rd zTag l (i:Int)).Key∧1≤(rd zTag l (i:Int)).Value.size∧(rd zTag l (i:Int)).Value.size≤200
 rise:∀ i:Nat,i+1<l.length→sLt (rd zTag l (i:Int)).Key (rd zTag l ((i+1:Nat):Int)).Key=true
theorem NameOk.ne {s:ByteArray} (h:NameOk s):s≠⟨#[]⟩:=fun e=>by
 have:=h.1
 rw [e] at this
 exact absurd this (by decide)
theorem size_pos {s:ByteArray}:sEq s ⟨#[]⟩=decide (s.size<1):=by
 by_cases e:s=⟨#[]⟩
 ·subst e;rw [sEq_self];rfl
 ·have h1:sEq s ⟨#[]⟩=false:=by rw [sEq_false];exact e
  rw [h1]
  have:¬ s.size<1:=fun h=>e (size_zero (by omega))
  rw [decide_eq_false this]
def keysFit (l:List Tag):Prop:=∀ i:Nat,i<l.length→(rd zTag l (i:Int)).Key.size≤maxLen
theorem tag_Valid_spec {l:List Tag} (hl:l.length≤maxLen) (hk:keysFit l) {Q:Bool→Prop} (h1:TagsOk l→Q true) (h2:¬ TagsOk l→Q false):ya.F l Q:=by
 rw [maxLen_val] at hl
 refine W.up2 l.length (fun i last=>(∀ j:Nat,j<i→NameOk (rd zTag l (j:Int)).Key∧1≤(rd zTag l (j:Int)).Value.size∧(rd zTag l (j:Int)).Value.size≤200)∧(∀ j:Nat,j+1<i→sLt (rd zTag l (j:Int)).Key (rd zTag l ((j+1:Nat):Int)).Key=true)∧(i=0→last=⟨#[]⟩)∧(∀ j,i=j+1→last=(rd zTag l (j:Int)).Key)) ⟨fun j h=>by omega,fun j h=>by omega,fun _=>rfl,fun j h=>by omega⟩ (fun K i last hi hI hK=>?_)
 obtain ⟨g1,g2,g3,g4⟩:=hI
 refine W.dec_i (fun hlt=>W.req_i ⟨by omega,hlt⟩ ?_) (fun hge=>?_)
 ·have hi2:i<l.length:=by omega
  refine lexer_Name_b (hk i hi2) fun b hb=>?_
  refine W.ite_i (fun hw=>?_) (fun hw=>?_)
  ·refine h2 fun hn=>?_
   have he:=hn.each i hi2
   rw [sLe_eq] at hw
   simp only [Bool.or_eq_true,decide_eq_true_eq,size_pos,Bool.not_eq_true'] at hw
   rcases hw with ((hw | hw) | hw) | hw
   ·have:=hb.2 he.1;rw [this] at hw;cases hw
   ·by_cases e:i=0
    ·rw [g3 e,sLt_empty he.1.ne] at hw;cases hw
    ·obtain ⟨j,rfl⟩:∃ j,i=j+1:=⟨i-1,by omega⟩
     rw [g4 j rfl,hn.rise j hi2] at hw;cases hw
   ·omega
   ·omega
  ·rw [w64_succ (by omega)]
   rw [sLe_eq] at hw
   simp only [Bool.or_eq_false_iff,decide_eq_false_iff_not,size_pos,Bool.not_eq_false'] at hw
   obtain ⟨⟨⟨hw1,hw2⟩,hw3⟩,hw4⟩:=hw
   refine hK hi2 _ ⟨fun j hj=>?_,fun j hj=>?_,fun e=>by omega,fun j e=>?_⟩
   ·by_cases e:j=i
    ·subst e;exact ⟨hb.1 hw1,by omega,by omega⟩
    ·exact g1 j (by omega)
   ·by_cases e:j+1=i
    ·subst e;rw [← g4 j rfl];exact hw2
    ·exact g2 j (by omega)
   ·have:j=i:=by omega
    subst this;rfl
 ·have hie:i=l.length:=by omega
  subst hie
  show Q (decide ((l.length:Int)≤(60:Int)))
  by_cases hf:l.length≤60
  ·rw [decide_eq_true (by omega)];exact h1 ⟨hf,g1,g2⟩
  ·rw [decide_eq_false (by omega)];exact h2 fun hn=>hf hn.few
theorem ref11_Tags_spec {l:List Tag} (hl:l.length≤maxLen) (hk:keysFit l) {Q:Bool→Prop} (h1:TagsOk l→Q true) (h2:¬ TagsOk l→Q false):wi.F l Q:=by
 rw [maxLen_val] at hl
 refine W.dec_i (fun hlt=>h2 fun hn=>by have:=hn.few;omega) (fun hge=>?_)
 have hf:l.length≤60:=by omega
 refine W.up1 l.length (fun i=>(∀ j:Nat,j<i→NameOk (rd zTag l (j:Int)).Key∧1≤(rd zTag l (j:Int)).Value.size∧(rd zTag l (j:Int)).Value.size≤200)∧(∀ j:Nat,j+1<i→sLt (rd zTag l (j:Int)).Key (rd zTag l ((j+1:Nat):Int)).Key=true)) ⟨fun j h=>by omega,fun j h=>by omega⟩ (fun K i hi hI hK=>?_)
 obtain ⟨g1,g2⟩:=hI
 refine W.dec_i (fun hlt=>W.req_i ⟨by omega,hlt⟩ ?_) (fun hge=>?_)
 case refine_2=>
  have:i=l.length:=by omega
  subst this
  exact h1 ⟨hf,g1,g2⟩
 have hi2:i<l.length:=by omega
 have hm:∀ (h:0<(i:Int)),w64 ((i:Int)-(1:Int))=((i-1:Nat):Int):=fun h=>by rw [w64_id (by omega) (by omega)];omega
 refine ref08_Name_b (hk i hi2) fun b hb=>W.req_i (fun _=>⟨by omega,by omega⟩) (W.req_i (fun _=>⟨by omega,by omega⟩) (W.req_i (fun h=>by
   simp only [Bool.and_eq_true,decide_eq_true_eq] at h
   rw [hm h.2];omega) (W.req_i (fun _=>⟨by omega,by omega⟩) ?_)))
 refine W.ite_i (fun hw=>?_) (fun hw=>?_)
 ·refine h2 fun hn=>?_
  have he:=hn.each i hi2
  simp only [Bool.or_eq_true,decide_eq_true_eq,Bool.not_eq_true',Bool.and_eq_true] at hw
  rcases hw with ((hw | hw) | hw) | ⟨hw0,hw⟩
  ·have:=hb.2 he.1;rw [this] at hw;cases hw
  ·omega
  ·omega
  ·rw [hm hw0] at hw
   have:=hn.rise (i-1) (by omega)
   rw [show i-1+1=i by omega,hw] at this
   cases this
 ·rw [w64_succ (by omega)]
  simp only [Bool.or_eq_false_iff,decide_eq_false_iff_not,Bool.not_eq_false',Bool.and_eq_false_iff] at hw
  obtain ⟨⟨⟨hw1,hw2⟩,hw3⟩,hw4⟩:=hw
  refine hK hi2 ⟨fun j hj=>?_,fun j hj=>?_⟩
  ·by_cases e:j=i
   ·subst e;exact ⟨hb.1 hw1,by omega,by omega⟩
   ·exact g1 j (by omega)
  ·by_cases e:j+1=i
   ·subst e
    rcases hw4 with hw4 | hw4
    ·omega
    ·rw [hm (by omega)] at hw4;simpa using hw4
   ·exact g2 j (by omega)
theorem tag_Valid_b {l:List Tag} (hl:l.length≤maxLen) (hk:keysFit l) {Q:Bool→Prop} (h:∀ b,(b=true↔TagsOk l)→Q b):ya.F l Q:=tag_Valid_spec hl hk (fun k=>h true (by simp [k])) (fun k=>h false (by simp [k]))
theorem ref11_Tags_b {l:List Tag} (hl:l.length≤maxLen) (hk:keysFit l) {Q:Bool→Prop} (h:∀ b,(b=true↔TagsOk l)→Q b):wi.F l Q:=ref11_Tags_spec hl hk (fun k=>h true (by simp [k])) (fun k=>h false (by simp [k]))
abbrev rs (l:List ByteArray) (i:Nat):ByteArray:=rd (⟨#[]⟩:ByteArray) l (i:Int)
def KindOk (k:Int):Prop:=1≤k∧k≤5
theorem object_word_b {k:Int} {Q:ByteArray→Prop} (h:∀ r,(sEq r ⟨#[]⟩=true↔¬ KindOk k)→Q r):ja6.F k Q:=by
 refine W.ite_i (fun hk=>?_) (fun hk=>?_)
 ·simp only [Bool.or_eq_true,decide_eq_true_eq] at hk
  exact h _ (by simp only [sEq_self,true_iff];unfold KindOk;omega)
 ·simp only [Bool.or_eq_false_iff,decide_eq_false_iff_not] at hk
  refine W.req_i (by omega) ?_
  have:k=0∨k=1∨k=2∨k=3∨k=4∨k=5:=by omega
  rcases this with rfl | rfl | rfl | rfl | rfl | rfl
  ·show Q (⟨#[]⟩:ByteArray)
   exact h _ (by rw [sEq_self];exact iff_of_true rfl (fun hh=>absurd hh.1 (by decide)))
  ·show Q (⟨#[110,111,100,101]⟩:ByteArray)
   exact h _ (iff_of_false (by rw [size_pos];decide) (fun hn=>hn ⟨by decide,by decide⟩))
  ·show Q (⟨#[119,97,121]⟩:ByteArray)
   exact h _ (iff_of_false (by rw [size_pos];decide) (fun hn=>hn ⟨by decide,by decide⟩))
  ·show Q (⟨#[97,114,101,97]⟩:ByteArray)
   exact h _ (iff_of_false (by rw [size_pos];decide) (fun hn=>hn ⟨by decide,by decide⟩))
  ·show Q (⟨#[114,111,117,116,101]⟩:ByteArray)
   exact h _ (iff_of_false (by rw [size_pos];decide) (fun hn=>hn ⟨by decide,by decide⟩))
  ·show Q (⟨#[116,117,114,110]⟩:ByteArray)
   exact h _ (iff_of_false (by rw [size_pos];decide) (fun hn=>hn ⟨by decide,by decide⟩))
theorem ref11_Word_b {k:Int} {Q:ByteArray→Prop} (h:∀ r,(sEq r ⟨#[]⟩=true↔¬ KindOk k)→Q r):ref11_Word.F k Q:=by
 refine W.ite_i (fun hk=>?_) (fun hk=>?_)
 ·simp only [Bool.or_eq_true,decide_eq_true_eq] at hk
  exact h _ (by simp only [sEq_self,true_iff];unfold KindOk;omega)
 ·simp only [Bool.or_eq_false_iff,decide_eq_false_iff_not] at hk
  refine W.req_i (by simp only [List.length_cons,List.length_nil];omega) (W.req_i (by simp only [List.length_cons,List.length_nil];omega) ?_)
  have:k=1∨k=2∨k=3∨k=4∨k=5:=by omega
  rcases this with rfl | rfl | rfl | rfl | rfl
  ·show Q (⟨#[110,111,100,101]⟩:ByteArray)
   exact h _ (iff_of_false (by rw [size_pos];decide) (fun hn=>hn ⟨by decide,by decide⟩))
  ·show Q (⟨#[119,97,121]⟩:ByteArray)
   exact h _ (iff_of_false (by rw [size_pos];decide) (fun hn=>hn ⟨by decide,by decide⟩))
  ·show Q (⟨#[97,114,101,97]⟩:ByteArray)
   exact h _ (iff_of_false (by rw [size_pos];decide) (fun hn=>hn ⟨by decide,by decide⟩))
  ·show Q (⟨#[114,111,117,116,101]⟩:ByteArray)
   exact h _ (iff_of_false (by rw [size_pos];decide) (fun hn=>hn ⟨by decide,by decide⟩))
  ·show Q (⟨#[116,117,114,110]⟩:ByteArray)
   exact h _ (iff_of_false (by rw [size_pos];decide) (fun hn=>hn ⟨by decide,by decide⟩))
structure Refs1 (k:Int) (l:List ByteArray) (n:Nat):Prop where
 name:∀ i:Nat,i<n→NameOk (rs l i)
 way:k=2→∀ i:Nat,i+1<n→rs l i≠rs l (i+1)
 area:k=3→∀ i j:Nat,i<j→j<n→rs l i≠rs l j
def CountOk (k:Int) (n:Nat):Prop:=n≤2000∧(k=1→n=0)∧(k=2→2≤n)∧(k=3→3≤n)∧(k=4→1≤n)∧(k=5→n=3)
def refsFit (l:List ByteArray):Prop:=∀ i:Nat,i<l.length→(rs l i).size≤maxLen
def Seen (l:List ByteArray) (i:Nat) (m:List (ByteArray×Bool)):Prop:=∀ s,mget s false m=true↔∃ j:Nat,j<i∧rs l j=s
theorem Seen.next {l:List ByteArray} {i:Nat} {m:List (ByteArray×Bool)} (h:Seen l i m):Seen l (i+1) (mset (rs l i) true m):=fun s=>by
 rw [mget_mset]
 constructor
 ·intro hh
  by_cases e:rs l i=s
  ·exact ⟨i,by omega,e⟩
  ·rw [if_neg e] at hh
   obtain ⟨j,hj,e2⟩:=(h s).1 hh
   exact ⟨j,by omega,e2⟩
 ·rintro ⟨j,hj,e⟩
  by_cases e2:rs l i=s
  ·rw [if_pos e2]
  ·rw [if_neg e2]
   refine (h s).2 ⟨j,?_,e⟩
   by_cases e3:j=i
   ·subst e3;exact absurd e e2
   ·omega
theorem Refs1.next {k:Int} {l:List ByteArray} {i:Nat} (h:Refs1 k l i) (h1:NameOk (rs l i)) (h2:k=2→∀ j,i=j+1→rs l j≠rs l i) (h3:k=3→∀ j,j<i→rs l j≠rs l i):Refs1 k l (i+1):=by
 refine ⟨fun j hj=>?_,fun hk j hj=>?_,fun hk a b hab hb=>?_⟩
 ·by_cases e:j=i
  ·subst e;exact h1
  ·exact h.name j (by omega)
 ·by_cases e:j+1=i
  ·rw [e];exact h2 hk j e.symm
  ·exact h.way hk j (by omega)
 ·by_cases e:b=i
  ·subst e;exact h3 hk a hab
  ·exact h.area hk a b hab (by omega)
theorem ref11_refs_b {o:Object} (hl:o.Refs.length≤maxLen) (hf:refsFit o.Refs) (hk:KindOk o.Kind) {Q:Bool→Prop} (h:∀ b,(b=true↔Refs1 o.Kind o.Refs o.Refs.length∧CountOk o.Kind o.Refs.length)→Q b):wo.F o Q:=by
 rw [maxLen_val] at hl
 refine W.dec_i (fun hlt=>h false (by simp only [Bool.false_eq_true,false_iff];rintro ⟨_,h2,_⟩;omega)) (fun hge=>?_)
 refine W.up2 o.Refs.length (fun i m=>Refs1 o.Kind o.Refs i∧Seen o.Refs i m) ⟨⟨fun i hi=>by omega,fun _ i hi=>by omega,fun _ i j _ hj=>by omega⟩,fun s=>by simp [mget]⟩ (fun K i m hi hI hK=>?_)
 obtain ⟨g1,g2⟩:=hI
 have hm:∀ (h:0<(i:Int)),w64 ((i:Int)-(1:Int))=((i-1:Nat):Int):=fun h=>by rw [w64_id (by omega) (by omega)];omega
 refine W.dec_i (fun hlt=>W.req_i ⟨by omega,hlt⟩ ?_) (fun hge2=>?_)
 ·have hi2:i<o.Refs.length:=by omega
  refine ref08_Name_b (hf i hi2) fun b hb=>W.req_i (fun hh=>by
   simp only [Bool.and_eq_true,decide_eq_true_eq] at hh
   rw [hm hh.2.2];omega) (W.req_i (fun _=>⟨by omega,by omega⟩) (W.req_i (fun _=>⟨by omega,by omega⟩) ?_))
  refine W.ite_i (fun hw=>?_) (fun hw=>?_)
  ·refine h false ?_
   simp only [Bool.false_eq_true,false_iff]
   rintro ⟨hr,_⟩
   simp only [Bool.or_eq_true,decide_eq_true_eq,Bool.not_eq_true',Bool.and_eq_true,beq_iff_eq,sEq_eq] at hw
   rcases hw with (hw | ⟨⟨hw1,hw2⟩,hw⟩) | ⟨hw1,hw⟩
   ·have:=hb.2 (hr.name i hi2);rw [this] at hw;cases hw
   ·rw [hm hw2] at hw
    have:=hr.way hw1 (i-1) (by omega)
    rw [show i-1+1=i by omega] at this
    exact this hw
   ·obtain ⟨j,hj,e⟩:=(g2 _).1 hw
    exact hr.area hw1 j i hj hi2 e
  ·refine W.req_i ⟨by omega,by omega⟩ ?_
   rw [w64_succ (by omega)]
   simp only [Bool.or_eq_false_iff,decide_eq_false_iff_not,Bool.not_eq_false',Bool.and_eq_false_iff,beq_eq_false_iff_ne,ne_eq,sEq_false] at hw
   obtain ⟨⟨hw1,hw2⟩,hw3⟩:=hw
   refine hK hi2 _ ⟨g1.next (hb.1 hw1) (fun hk2 j e=>?_) (fun hk3 j hj e=>?_),g2.next⟩
   ·rcases hw2 with (hw2 | hw2) | hw2
    ·exact absurd hk2 hw2
    ·omega
    ·rw [hm (by omega),show i-1=j by omega] at hw2;exact hw2
   ·rcases hw3 with hw3 | hw3
    ·exact hw3 hk3
    ·have:=(g2 (rs o.Refs i)).2 ⟨j,hj,e⟩
     rw [this] at hw3;cases hw3
 ·have hie:i=o.Refs.length:=by omega
  subst hie
  have key:∀ b:Bool,(b=true↔CountOk o.Kind o.Refs.length)→Q b:=fun b hb=>h b (by rw [hb];exact ⟨fun x=>⟨g1,x⟩,fun x=>x.2⟩)
  unfold KindOk at hk
  refine W.ite_i (fun e=>key _ ?_) (fun e1=>W.ite_i (fun e=>key _ ?_) (fun e2=>W.ite_i (fun e=>key _ ?_) (fun e3=>W.ite_i (fun e=>key _ ?_) (fun e4=>key _ ?_))))<;>simp only [beq_iff_eq,beq_eq_false_iff_ne,ne_eq,decide_eq_true_eq] at *<;>unfold CountOk<;>omega
theorem object_Valid_1_b {s:ByteArray} {o:Object} {last:ByteArray} {m:List (ByteArray×Bool)} (hs:s.size≤maxLen) {Q:Bool×ByteArray×List (ByteArray×Bool)→Prop} (h:∀ b,(b=true↔(o.Kind=2∧s=last)∨(o.Kind=3∧mget s false m=true)∨¬ NameOk s)→Q (b,s,mset s true m)):wl.F s o last m Q:=by
 refine W.ite_i (fun hw=>lexer_Name_b hs fun b hb=>h _ ?_) (fun hw=>h _ ?_)
 ·simp only [Bool.not_eq_true',Bool.or_eq_false_iff,Bool.and_eq_false_iff,beq_eq_false_iff_ne,ne_eq,sEq_false] at hw
  simp only [Bool.or_eq_true,Bool.and_eq_true,beq_iff_eq,sEq_eq,Bool.not_eq_true',or_assoc,← hb,Bool.not_eq_true]
 ·simp only [Bool.not_eq_false',Bool.or_eq_true,Bool.and_eq_true,beq_iff_eq,sEq_eq] at hw
  simp only [Bool.or_eq_true,Bool.and_eq_true,beq_iff_eq,sEq_eq,Bool.not_eq_true',or_assoc]
  constructor
  ·rintro (h | h | h)
   ·exact .inl h
   ·exact .inr (.inl h)
   ·rcases hw with hw | hw
    ·exact .inl hw
    ·exact .inr (.inl hw)
  ·rintro (h | h | h)
   ·exact .inl h
   ·exact .inr (.inl h)
   ·rcases hw with hw | hw
    ·exact .inl hw
    ·exact .inr (.inl hw)
theorem object_refs_b {o:Object} (hl:o.Refs.length≤maxLen) (hf:refsFit o.Refs) {Q:Bool×ByteArray×List (ByteArray×Bool)→Prop} (h:∀ r,(r.1=true↔¬ Refs1 o.Kind o.Refs o.Refs.length)→Q r):Jl.F o.Refs o (⟨#[]⟩:ByteArray) ([]:(List (ByteArray×Bool))) Q:=by
 rw [maxLen_val] at hl
 show (Jb.F o.Refs o (⟨#[]⟩:ByteArray) ([]:(List (ByteArray×Bool)))) (fun r1=>Q ((decide ((0:Int)≤r1.1)),r1.2.1,r1.2.2))
 refine W.up3 o.Refs.length (fun i last m=>Refs1 o.Kind o.Refs i∧Seen o.Refs i m∧(i=0→last=⟨#[]⟩)∧(∀ j,i=j+1→last=rs o.Refs j)) ⟨⟨fun i hi=>by omega,fun _ i hi=>by omega,fun _ i j _ hj=>by omega⟩,fun s=>by simp [mget],fun _=>rfl,fun j hj=>by omega⟩ (fun K i last m hi hI hK=>?_)
 obtain ⟨g1,g2,g3,g4⟩:=hI
 refine W.dec_i (fun hlt=>W.req_i ⟨by omega,hlt⟩ ?_) (fun hge=>?_)
 ·have hi2:i<o.Refs.length:=by omega
  refine object_Valid_1_b (hf i hi2) fun b hb=>W.ite_i (fun hw=>?_) (fun hw=>?_)
  ·refine h _ (iff_of_true (by simp) fun hr=>?_)
   rcases hb.1 hw with ⟨hk,e⟩ | ⟨hk,e⟩ | e
   ·by_cases e0:i=0
    ·have:=(hr.name i hi2).ne
     exact this (e.trans (g3 e0))
    ·obtain ⟨j,rfl⟩:∃ j,i=j+1:=⟨i-1,by omega⟩
     exact hr.way hk j hi2 ((e.trans (g4 j rfl)).symm)
   ·obtain ⟨j,hj,e2⟩:=(g2 _).1 e
    exact hr.area hk j i hj hi2 e2
   ·exact e (hr.name i hi2)
  ·have hw':¬ (o.Kind=2∧rs o.Refs i=last∨o.Kind=3∧mget (rs o.Refs i) false m=true∨¬ NameOk (rs o.Refs i)):=fun hh=>by have:=hb.2 hh;rw [this] at hw;cases hw
   rw [w64_succ (by omega)]
   refine hK hi2 _ _ ⟨g1.next (Classical.byContradiction fun hh=>hw' (.inr (.inr hh))) (fun hk j e e2=>hw' (.inl ⟨hk,?_⟩)) (fun hk j hj e=>hw' (.inr (.inl ⟨hk,(g2 _).2 ⟨j,hj,e⟩⟩))),g2.next,fun e=>by omega,fun j e=>?_⟩
   ·rw [g4 j e];exact e2.symm
   ·have:j=i:=by omega
    subst this;rfl
 ·have hie:i=o.Refs.length:=by omega
  subst hie
  exact h _ (iff_of_false (by simp) (fun hh=>hh g1))
def AtOk (k:Int) (p:Point):Prop:=(k=1→0≤p.X∧p.X<1048576∧0≤p.Y∧p.Y<1048576)∧(k≠1→p.X=0∧p.Y=0)
structure ObjOk (o:Object):Prop where
 kind:KindOk o.Kind
 name:NameOk o.Id
 tags:TagsOk o.Tags
 refs:Refs1 o.Kind o.Refs o.Refs.length
 count:CountOk o.Kind o.Refs.length
 at_:AtOk o.Kind o.At
structure ObjFit (o:Object):Prop where
 id:o.Id.size≤maxLen
 refs:o.Refs.length≤maxLen
 each:refsFit o.Refs
 tags:o.Tags.length≤maxLen
 keys:keysFit o.Tags
theorem eq_zero_iff {p:Point}:Vg p (⟨(0:Int),(0:Int)⟩:Point)=true↔p.X=0∧p.Y=0:=by
 simp [Vg]
theorem object_Valid_b {o:Object} (hf:ObjFit o) {Q:Bool→Prop} (h:∀ b,(b=true↔ObjOk o)→Q b):yx.F o Q:=by
 refine object_word_b fun r hr=>?_
 cases e1:sEq r ⟨#[]⟩ with
 | true=>
  have hk:¬ ObjOk o:=fun ho=>hr.1 e1 ho.kind
  refine W.ite_i (fun hh=>by rw [e1] at hh;cases hh) (fun _=>W.ite_i (fun hh=>by rw [e1] at hh;cases hh) (fun _=>W.ite_i (fun hh=>by rw [e1] at hh;cases hh) (fun _=>W.ite_i (fun _=>h _ (iff_of_false (by simp) hk)) (fun hh=>by rw [e1] at hh;cases hh))))
 | false=>
  have hk:KindOk o.Kind:=Classical.byContradiction fun hn=>by rw [hr.2 hn] at e1;cases e1
  refine W.ite_i (fun _=>?_) (fun hh=>by rw [e1] at hh;cases hh)
  refine lexer_Name_b hf.id fun b2 h2=>?_
  cases b2 with
  | false=>
   have hn:¬ ObjOk o:=fun ho=>by have:=h2.2 ho.name;cases this
   refine W.ite_i (fun hh=>by rw [e1] at hh;cases hh) (fun _=>W.ite_i (fun hh=>by rw [e1] at hh;cases hh) (fun _=>W.ite_i (fun _=>h _ (iff_of_false (by simp) hn)) (fun hh=>by rw [e1] at hh;cases hh)))
  | true=>
   refine W.ite_i (fun _=>?_) (fun hh=>by rw [e1] at hh;cases hh)
   refine tag_Valid_b hf.tags hf.keys fun b3 h3=>?_
   cases b3 with
   | false=>
    have hn:¬ ObjOk o:=fun ho=>by have:=h3.2 ho.tags;cases this
    refine W.ite_i (fun hh=>by rw [e1] at hh;cases hh) (fun _=>W.ite_i (fun _=>h _ (iff_of_false (by simp) hn)) (fun hh=>by rw [e1] at hh;cases hh))
   | true=>
    refine W.ite_i (fun _=>?_) (fun hh=>by rw [e1] at hh;cases hh)
    unfold KindOk at hk
    refine W.req_i (by omega) ?_
    have hleast:∃ n:Int,aget_178 ((0:Int),(0:Int),(2:Int),(3:Int),(1:Int),(3:Int)) o.Kind=n∧(o.Kind=1∧n=0∨o.Kind=2∧n=2∨o.Kind=3∧n=3∨o.Kind=4∧n=1∨o.Kind=5∧n=3):=by
     have:o.Kind=1∨o.Kind=2∨o.Kind=3∨o.Kind=4∨o.Kind=5:=by omega
     rcases this with e | e | e | e | e<;>rw [e]<;>exact ⟨_,rfl,by simp [aget_178]⟩
    obtain ⟨n,hn,hnk⟩:=hleast
    show W.ite _ _ _ Q
    rw [show aget_178 ((0:Int),(0:Int),(2:Int),(3:Int),(1:Int),(3:Int)) o.Kind=n from hn]
    refine W.ite_i (fun hh=>h _ (iff_of_false (by simp) fun ho=>?_)) (fun hh=>?_)
    ·have hc:=ho.count
     unfold CountOk at hc
     simp only [e1,Bool.not_true,Bool.false_or,Bool.or_eq_true,decide_eq_true_eq] at hh
     omega
    ·simp only [e1,Bool.not_true,Bool.false_or,Bool.or_eq_false_iff,decide_eq_false_iff_not] at hh
     refine object_refs_b hf.refs hf.each fun q hq=>W.ite_i (fun hw=>h _ (iff_of_false (by simp) fun ho=>hq.1 hw ho.refs)) (fun hw=>?_)
     have hrefs:Refs1 o.Kind o.Refs o.Refs.length:=Classical.byContradiction fun hn=>by rw [hq.2 hn] at hw;cases hw
     have fin:∀ b:Bool,(b=true↔CountOk o.Kind o.Refs.length∧AtOk o.Kind o.At)→Q b:=fun b hb=>h b (by
      rw [hb]
      exact ⟨fun ⟨x,y⟩=>⟨hk,h2.1 rfl,h3.1 rfl,hrefs,x,y⟩,fun ho=>⟨ho.count,ho.at_⟩⟩)
     refine W.ite_i (fun hk1=>?_) (fun hk1=>?_)
     ·have hk1':o.Kind=1:=by simpa using hk1
      refine W.ite_i (fun hz=>fin _ ?_) (fun hz=>fin _ ?_)
      ·simp only [beq_iff_eq] at hz
       simp only [Bool.and_eq_true,decide_eq_true_eq,beq_iff_eq]
       unfold CountOk AtOk
       omega
      ·simp only [beq_eq_false_iff_ne,ne_eq] at hz
       simp only [Bool.and_false,Bool.false_eq_true,false_iff]
       unfold CountOk
       omega
     ·have hk1':o.Kind≠1:=by simpa using hk1
      refine W.ite_i (fun hk5=>fin _ ?_) (fun hk5=>fin _ ?_)
      ·have hk5':o.Kind=5:=by simpa using hk5
       simp only [Bool.and_eq_true,beq_iff_eq,eq_zero_iff]
       unfold CountOk AtOk
       omega
      ·have hk5':o.Kind≠5:=by simpa using hk5
       rw [eq_zero_iff]
       unfold CountOk AtOk
       omega
theorem ref11_Valid_b {o:Object} (hf:ObjFit o) {Q:Bool→Prop} (h:∀ b,(b=true↔ObjOk o)→Q b):yb.F o Q:=by
 have key:∀ at1:Bool,(at1=true↔AtOk o.Kind o.At)→yb.c1 o at1 Q:=by
  intro at1 hat
  refine ref08_Name_b hf.id fun b2 h2=>?_
  cases b2 with
  | false=>
   have hn:¬ ObjOk o:=fun ho=>by have:=h2.2 ho.name;cases this
   exact h _ (iff_of_false (by simp) hn)
  | true=>
   refine W.ite_i (fun _=>?_) (fun hh=>by cases hh)
   refine ref11_Word_b fun r hr=>?_
   cases e1:sEq r ⟨#[]⟩ with
   | true=>
    have hk:¬ ObjOk o:=fun ho=>hr.1 e1 ho.kind
    refine W.ite_i (fun hh=>by rw [e1] at hh;cases hh) (fun _=>W.ite_i (fun hh=>by rw [e1] at hh;cases hh) (fun _=>?_))
    show Q ((((true&&(!(sEq r (⟨#[]⟩:ByteArray))))&&at1)&&false)&&false)
    exact h _ (iff_of_false (by simp) hk)
   | false=>
    have hk:KindOk o.Kind:=Classical.byContradiction fun hn=>by rw [hr.2 hn] at e1;cases e1
    cases at1 with
    | false=>
     have hn:¬ ObjOk o:=fun ho=>by have:=hat.2 ho.at_;cases this
     refine W.ite_i (fun hh=>by rw [e1] at hh;cases hh) (fun _=>W.ite_i (fun hh=>by rw [e1] at hh;cases hh) (fun _=>?_))
     exact h _ (iff_of_false (by simp) hn)
    | true=>
     refine W.ite_i (fun _=>?_) (fun hh=>by rw [e1] at hh;cases hh)
     refine ref11_Tags_b hf.tags hf.keys fun b3 h3=>?_
     cases b3 with
     | false=>
      have hn:¬ ObjOk o:=fun ho=>by have:=h3.2 ho.tags;cases this
      refine W.ite_i (fun hh=>by rw [e1] at hh;cases hh) (fun _=>?_)
      exact h _ (iff_of_false (by simp) hn)
     | true=>
      refine W.ite_i (fun _=>?_) (fun hh=>by rw [e1] at hh;cases hh)
      refine ref11_refs_b hf.refs hf.each hk fun b4 h4=>?_
      show Q ((((true&&(!(sEq r (⟨#[]⟩:ByteArray))))&&true)&&true)&&b4)
      rw [e1]
      refine h _ ?_
      simp only [Bool.not_false,Bool.and_self,Bool.true_and,h4]
      exact ⟨fun ⟨x,y⟩=>⟨hk,h2.1 rfl,h3.1 rfl,x,y,hat.1 rfl⟩,fun ho=>⟨ho.refs,ho.count⟩⟩
 refine W.ite_i (fun hk=>key _ ?_) (fun hk=>key _ ?_)
 ·simp only [bne_iff_ne,ne_eq] at hk
  rw [eq_zero_iff];unfold AtOk;omega
 ·simp only [bne_eq_false_iff_eq] at hk
  simp only [Bool.and_eq_true,decide_eq_true_eq]
  unfold AtOk;omega
abbrev ob (m:Map) (i:Nat):Object:=rd zObject m.Objects (i:Int)
structure MapOk (m:Map):Prop where
 few:m.Objects.length≤1000000
 each:∀ i:Nat,i<m.Objects.length→ObjOk (ob m i)
 rise:∀ i:Nat,i+1<m.Objects.length→sLt (ob m i).Id (ob m (i+1)).Id=true
structure MapFit (m:Map):Prop where
 len:m.Objects.length≤maxLen
 each:∀ i:Nat,i<m.Objects.length→ObjFit (ob m i)
theorem atlas_Valid_b {m:Map} (hf:MapFit m) {Q:Bool→Prop} (h:∀ b,(b=true↔MapOk m)→Q b):qj.F m Q:=by
 have hl:=hf.len
 rw [maxLen_val] at hl
 refine W.up2 m.Objects.length (fun i last=>(∀ j:Nat,j<i→ObjOk (ob m j))∧(∀ j:Nat,j+1<i→sLt (ob m j).Id (ob m (j+1)).Id=true)∧(i=0→last=⟨#[]⟩)∧(∀ j,i=j+1→last=(ob m j).Id)) ⟨fun j h=>by omega,fun j h=>by omega,fun _=>rfl,fun j h=>by omega⟩ (fun K i last hi hI hK=>?_)
 obtain ⟨g1,g2,g3,g4⟩:=hI
 refine W.dec_i (fun hlt=>W.req_i ⟨by omega,hlt⟩ ?_) (fun hge=>?_)
 ·have hi2:i<m.Objects.length:=by omega
  refine object_Valid_b (hf.each i hi2) fun b hb=>?_
  refine W.ite_i (fun hw=>h _ (iff_of_false (by simp) fun hn=>?_)) (fun hw=>?_)
  ·have he:=hn.each i hi2
   rw [sLe_eq] at hw
   simp only [Bool.or_eq_true,Bool.not_eq_true'] at hw
   rcases hw with hw | hw
   ·have:=hb.2 he;rw [this] at hw;cases hw
   ·by_cases e:i=0
    ·rw [g3 e,sLt_empty he.name.ne] at hw;cases hw
    ·obtain ⟨j,rfl⟩:∃ j,i=j+1:=⟨i-1,by omega⟩
     rw [g4 j rfl] at hw
     have:=hn.rise j hi2
     rw [this] at hw;cases hw
  ·rw [w64_succ (by omega)]
   rw [sLe_eq] at hw
   simp only [Bool.or_eq_false_iff,Bool.not_eq_false'] at hw
   obtain ⟨hw1,hw2⟩:=hw
   refine hK hi2 _ ⟨fun j hj=>?_,fun j hj=>?_,fun e=>by omega,fun j e=>?_⟩
   ·by_cases e:j=i
    ·subst e;exact hb.1 hw1
    ·exact g1 j (by omega)
   ·by_cases e:j+1=i
    ·subst e;rw [← g4 j rfl];exact hw2
    ·exact g2 j (by omega)
   ·have:j=i:=by omega
    subst this;rfl
 ·have hie:i=m.Objects.length:=by omega
  subst hie
  show Q (decide ((m.Objects.length:Int)≤(1000000:Int)))
  refine h _ ?_
  simp only [decide_eq_true_eq]
  exact ⟨fun x=>⟨by omega,g1,g2⟩,fun x=>by have:=x.few;omega⟩
theorem ref13_Valid_b {m:Map} (hf:MapFit m) {Q:Bool→Prop} (h:∀ b,(b=true↔MapOk m)→Q b):qy.F m Q:=by
 have hl:=hf.len
 rw [maxLen_val] at hl
 refine W.dec_i (fun hlt=>h _ (iff_of_false (by simp) fun hn=>by have:=hn.few;omega)) (fun hge=>?_)
 refine W.up1 m.Objects.length (fun i=>(∀ j:Nat,j<i→ObjOk (ob m j))∧(∀ j:Nat,j+1<i→sLt (ob m j).Id (ob m (j+1)).Id=true)) ⟨fun j h=>by omega,fun j h=>by omega⟩ (fun K i hi hI hK=>?_)
 obtain ⟨g1,g2⟩:=hI
 have hm:∀ (h:0<(i:Int)),w64 ((i:Int)-(1:Int))=((i-1:Nat):Int):=fun h=>by rw [w64_id (by omega) (by omega)];omega
 refine W.dec_i (fun hlt=>W.req_i ⟨by omega,hlt⟩ ?_) (fun hge2=>?_)
 ·have hi2:i<m.Objects.length:=by omega
  refine ref11_Valid_b (hf.each i hi2) fun b hb=>W.req_i (fun hh=>by
   simp only [Bool.and_eq_true,decide_eq_true_eq] at hh
   rw [hm hh.2];omega) (W.req_i (fun _=>⟨by omega,by omega⟩) ?_)
  refine W.ite_i (fun hw=>h _ (iff_of_false (by simp) fun hn=>?_)) (fun hw=>?_)
  ·simp only [Bool.or_eq_true,decide_eq_true_eq,Bool.not_eq_true',Bool.and_eq_true] at hw
   rcases hw with hw | ⟨hw1,hw⟩
   ·have:=hb.2 (hn.each i hi2);rw [this] at hw;cases hw
   ·rw [hm hw1] at hw
    have:=hn.rise (i-1) (by omega)
    rw [show i-1+1=i by omega] at this
    rw [this] at hw;cases hw
  ·rw [w64_succ (by omega)]
   simp only [Bool.or_eq_false_iff,decide_eq_false_iff_not,Bool.not_eq_false',Bool.and_eq_false_iff] at hw
   obtain ⟨hw1,hw2⟩:=hw
   refine hK hi2 ⟨fun j hj=>?_,fun j hj=>?_⟩
   ·by_cases e:j=i
    ·subst e;exact hb.1 hw1
    ·exact g1 j (by omega)
   ·by_cases e:j+1=i
    ·subst e
     rcases hw2 with hw2 | hw2
     ·omega
     ·rw [hm (by omega),show j+1-1=j by omega] at hw2;exact hw2
    ·exact g2 j (by omega)
 ·have hie:i=m.Objects.length:=by omega
  subst hie
  exact h _ (iff_of_true rfl ⟨by omega,g1,g2⟩)
abbrev Key:=ByteArray×ByteArray
abbrev kz:Key:=((⟨#[]⟩:ByteArray),(⟨#[]⟩:ByteArray))
def kLt (a b:Key):Prop:=sLt a.1 b.1=true∨a.1=b.1∧sLt a.2 b.2=true
theorem kLt.irr {a:Key} (h:kLt a a):False:=by
 rcases h with h | ⟨_,h⟩<;>rw [sLt_irr] at h<;>cases h
theorem kLt.trans {a b c:Key} (h:kLt a b) (k:kLt b c):kLt a c:=by
 rcases h with h | ⟨e,h⟩<;>rcases k with k | ⟨e2,k⟩
 ·exact .inl (sLt_trans h k)
 ·exact .inl (e2 ▸ h)
 ·exact .inl (e ▸ k)
 ·exact .inr ⟨e.trans e2,sLt_trans h k⟩
theorem kLt.tri (a b:Key):kLt a b∨a=b∨kLt b a:=by
 rcases sLt_tri a.1 b.1 with h | h | h
 ·exact .inl (.inl h)
 ·rcases sLt_tri a.2 b.2 with k | k | k
  ·exact .inl (.inr ⟨h,k⟩)
  ·exact .inr (.inl (Prod.ext h k))
  ·exact .inr (.inr (.inr ⟨h.symm,k⟩))
 ·exact .inr (.inr (.inl h))
theorem kLt.ne {a b:Key} (h:kLt a b):a≠b:=fun e=>by subst e;exact h.irr
theorem rise_unique {α:Type} {lt:α→α→Prop} (irr:∀ a,¬ lt a a) (tr:∀ a b c,lt a b→lt b c→lt a c):∀ {l l':List α},l.Pairwise lt→l'.Pairwise lt→(∀ s,s∈l↔s∈l')→l=l'
 | [],[],_,_,_=>rfl
 | [],b::l',_,_,h=>by have:=(h b).2 (by simp);cases this
 | a::l,[],_,_,h=>by have:=(h a).1 (by simp);cases this
 | a::l,b::l',h1,h2,h=>by
  rw [List.pairwise_cons] at h1 h2
  have e:a=b:=by
   rcases List.mem_cons.1 ((h a).1 (by simp)) with e | e
   ·exact e
   ·rcases List.mem_cons.1 ((h b).2 (by simp)) with e' | e'
    ·exact e'.symm
    ·exact absurd (tr _ _ _ (h1.1 b e') (h2.1 a e)) (irr _)
  subst e
  congr 1
  refine rise_unique irr tr h1.2 h2.2 fun s=>⟨fun hs=>?_,fun hs=>?_⟩
  ·rcases List.mem_cons.1 ((h s).1 (by simp [hs])) with e | e
   ·subst e;exact absurd (h1.1 s hs) (irr _)
   ·exact e
  ·rcases List.mem_cons.1 ((h s).2 (by simp [hs])) with e | e
   ·subst e;exact absurd (h2.1 s hs) (irr _)
   ·exact e
theorem MapOk.lt {m:Map} (h:MapOk m) {i:Nat}:∀ {j:Nat},i<j→j<m.Objects.length→sLt (ob m i).Id (ob m j).Id=true
 | 0,h1,_=>by omega
 | j+1,h1,h2=>by
  by_cases e:i=j
  ·subst e;exact h.rise i h2
  ·exact sLt_trans (h.lt (j:=j) (by omega) (by omega)) (h.rise j h2)
theorem MapOk.inj {m:Map} (h:MapOk m) {i j:Nat} (hi:i<m.Objects.length) (hj:j<m.Objects.length) (e:(ob m i).Id=(ob m j).Id):i=j:=by
 rcases Nat.lt_trichotomy i j with k | k | k
 ·exact absurd e (sLt_ne (h.lt k hj))
 ·exact k
 ·exact absurd e.symm (sLt_ne (h.lt k hi))
def Holds (m:Map) (id:ByteArray) (j:Nat):Prop:=j<m.Objects.length∧(ob m j).Id=id
def Nd (m:Map) (id:ByteArray):Prop:=∃ j:Nat,Holds m id j∧(ob m j).Kind=1
def SoundP (m:Map) (o:Object):Prop:=∀ i:Nat,i<o.Refs.length→Nd m (rs o.Refs i)
open Classical in
noncomputable def pos (m:Map) (id:ByteArray):Point:=if h:∃ j:Nat,Holds m id j then (ob m h.choose).At else zPoint
theorem pos_eq {m:Map} (h:MapOk m) {id:ByteArray} {j:Nat} (hj:Holds m id j):pos m id=(ob m j).At:=by
 have hx:∃ j:Nat,Holds m id j:=⟨j,hj⟩
 unfold pos
 rw [dif_pos hx]
 have:=hx.choose_spec
 rw [h.inj this.1 hj.1 (this.2.trans hj.2.symm)]
theorem ref13_Find_b {m:Map} (h:MapOk m) {id:ByteArray} {Q:Int→Prop} (hn:(¬ ∃ j:Nat,Holds m id j)→Q (-1)) (hy:∀ j:Nat,Holds m id j→Q (j:Int)):qo.F m id Q:=by
 have hl:=h.few
 refine W.loop2 (fun (f t:Int)=>∃ a b:Nat,f=(a:Int)∧t=(b:Int)∧a≤b∧b≤m.Objects.length∧(∀ j,j<a→sLt (ob m j).Id id=true)∧(∀ j,b≤j→j<m.Objects.length→sLt (ob m j).Id id=false)) (fun f t=>t.toNat-f.toNat) ?_ ⟨0,m.Objects.length,rfl,rfl,by omega,by omega,fun j h=>by omega,fun j h1 h2=>by omega⟩
 rintro K f t ⟨a,b,rfl,rfl,hab,hb,h1,h2⟩ hk
 refine W.dec_i (fun hlt=>?_) (fun hge=>?_)
 ·have e:w64 (Int.tdiv (w64 ((a:Int)+(b:Int))) 2)=(((a+b) / 2:Nat):Int):=by
   rw [w64_id (x:=(a:Int)+(b:Int)) (by omega) (by omega),show (a:Int)+(b:Int)=((a+b:Nat):Int) by omega,show ((2:Int))=((2:Nat):Int) from rfl,← Int.ofNat_tdiv]
   exact w64_id (by omega) (by omega)
  have hc:(a+b) / 2<m.Objects.length:=by omega
  generalize hcc:(a+b) / 2=c at *
  rw [e]
  refine W.req_i ⟨by omega,by omega⟩ (W.ite_i (fun hs=>?_) (fun hs=>?_))
  ·rw [w64_succ (by omega)]
   refine hk _ _ ⟨c+1,b,rfl,rfl,by omega,hb,fun j hj=>?_,h2⟩ (by omega)
   by_cases e2:j=c
   ·subst e2;exact hs
   ·exact sLt_trans (h.lt (show j<c by omega) hc) hs
  ·refine hk _ _ ⟨a,c,rfl,rfl,by omega,by omega,h1,fun j hj1 hj2=>?_⟩ (by omega)
   by_cases e2:j=c
   ·subst e2;exact hs
   ·cases hq:sLt (ob m j).Id id with
    | false=>rfl
    | true=>rw [sLt_trans (h.lt (show c<j by omega) hj2) hq] at hs;cases hs
 ·have hab':a=b:=by omega
  subst hab'
  refine W.req_i (fun hd=>⟨by omega,by simpa using hd⟩) (W.ite_i (fun hd=>?_) (fun hd=>?_))
  ·simp only [Bool.and_eq_true,decide_eq_true_eq,sEq_eq] at hd
   exact hy a ⟨by omega,hd.2⟩
  ·refine hn ?_
   rintro ⟨j,hj,e⟩
   rcases Nat.lt_trichotomy j a with k | k | k
   ·have:=h1 j k;rw [e,sLt_irr] at this;cases this
   ·subst k
    rw [Bool.and_eq_false_iff] at hd
    rcases hd with hd | hd
    ·rw [decide_eq_false_iff_not] at hd;omega
    ·rw [sEq_false] at hd;exact hd e
   ·have:=h2 a (by omega) (by omega)
    have:=h.lt k hj
    rw [e] at this
    rw [h2 a (by omega) (by omega)] at this;cases this
theorem ref13_Sound_b {m:Map} (h:MapOk m) {o:Object} (ho:o.Kind=2∨o.Kind=3) (hr:o.Refs.length≤2000) {Q:Bool→Prop} (hq:∀ b,(b=true↔SoundP m o)→Q b):Vs.F m o Q:=by
 refine ⟨2,?_⟩
 refine W.up1 (B:=Vs.l1 (Vs.Fn 1) m o Vs.c1) o.Refs.length (fun i=>∀ k,k<i→Nd m (rs o.Refs k)) (fun k hk=>by omega) (fun K i hi hI hk=>?_)
 refine W.dec_i (fun hlt=>W.req_i ⟨by omega,hlt⟩ (W.bind_i ?_)) (fun hge=>hq true (iff_of_true rfl fun k hk=>hI k (by omega)))
 have hi':i<o.Refs.length:=by omega
 refine ref13_Find_b h (fun hno=>?_) (fun j hj=>?_)
 ·refine W.req_i (fun k=>by simp at k) (W.bind_i (W.req_i (fun k=>by simp at k) (W.bind_i ?_)))
  refine hq false (iff_of_false (by simp) fun hs=>hno ?_)
  obtain ⟨j,hj,_⟩:=hs i hi'
  exact ⟨j,hj⟩
 ·have hj0:¬ ((j:Int)<0):=by omega
  refine W.req_i (fun _=>⟨by omega,by have:=hj.1;omega⟩) (W.bind_i ?_)
  rw [decide_eq_false hj0]
  have ek:((o.Kind==(4:Int))||((o.Kind==(5:Int))&&((i:Int) != (1:Int))))=false:=by
   rcases ho with e | e<;>rw [e]<;>rfl
  show ja1.F o (i:Int) _
  unfold ja1.F
  rw [ek]
  refine W.req_i (fun _=>⟨by omega,by have:=hj.1;omega⟩) (W.bind_i ?_)
  rw [Bool.false_or]
  by_cases hk1:(ob m j).Kind=1
  ·rw [show ((rd zObject m.Objects (j:Int)).Kind != (1:Int))=false by simpa [ob] using hk1]
   have h0:(ob m j).Refs.length=0:=(h.each j hj.1).count.2.1 hk1
   refine ⟨1,?_⟩
   refine W.dec_i (fun k=>by rw [show (rd zObject m.Objects (j:Int))=ob m j from rfl,h0] at k;omega) (fun _=>?_)
   show K (w64 ((i:Int)+1)) Q
   rw [w64_succ (by omega)]
   refine hk hi' fun k hk2=>?_
   by_cases e:k=i
   ·subst e;exact ⟨j,hj,hk1⟩
   ·exact hI k (by omega)
  ·rw [show ((rd zObject m.Objects (j:Int)).Kind != (1:Int))=true by simpa [ob] using hk1]
   refine hq false (iff_of_false (by simp) fun hs=>?_)
   obtain ⟨j',hj',h1'⟩:=hs i hi'
   rw [h.inj hj.1 hj'.1 (hj.2.trans hj'.2.symm)] at hk1
   exact hk1 h1'
def nxt (l:List ByteArray) (i:Nat):ByteArray:=if i+1<l.length then rs l (i+1) else rs l 0
def key (a b:ByteArray):Key:=(sMin a b,sMax a b)
def sidesN (o:Object):Nat:=if o.Kind=3 then o.Refs.length else o.Refs.length-1
def sides (o:Object):List Key:=if o.Kind=2∨o.Kind=3 then (List.range (sidesN o)).map fun i=>key (rs o.Refs i) (nxt o.Refs i) else []
theorem sides_len {o:Object}:(sides o).length≤o.Refs.length:=by
 unfold sides sidesN
 split
 ·rw [List.length_map,List.length_range];split<;>omega
 ·simp
theorem set_mid {α:Type} (A:List α) (b c:α) (B:List α) {n:Nat} (h:n=A.length):(A++b::B).set n c=A++c::B:=by
 subst h
 simp
theorem ref13_Sides_b {o:Object} (hr:o.Refs.length≤2000) (h3:o.Kind=3→1≤o.Refs.length) {Q:List Key→Prop} (hq:Q (sides o)):Vp.F o Q:=by
 unfold sides sidesN at hq
 by_cases hk:o.Kind=2∨o.Kind=3
 ·rw [if_pos hk] at hq
  refine W.ite_i (fun k=>by rw [Bool.and_eq_true,bne_iff_ne,bne_iff_ne] at k;omega) (fun _=>?_)
  let raw:Nat→Key:=fun i=>(rs o.Refs i,nxt o.Refs i)
  have c2:∀ n:Nat,n≤2000→Q ((List.range n).map fun i=>key (rs o.Refs i) (nxt o.Refs i))→Vp.c2 ((List.range n).map raw) Q:=fun n hn2 hq=>by
   refine W.up2 n (fun i x=>∃ B,(List.range n).map raw=(List.range i).map raw++B∧x=((List.range i).map fun i=>key (rs o.Refs i) (nxt o.Refs i))++B) ⟨_,rfl,rfl⟩ (fun K i x hi hI hK=>?_)
   obtain ⟨B,hB,rfl⟩:=hI
   have hBl:B.length=n-i:=by
    have:=congrArg List.length hB
    simp at this;omega
   refine W.dec_i (fun hlt=>?_) (fun hge=>?_)
   ·have hi':i<n:=by simp at hlt;omega
    match B,hBl with
    | [],e=>simp at e;omega
    | b::B,e=>
     have hb:b=raw i:=by
      have:=congrArg (fun l=>l[i]?) hB
      simp [List.getElem?_append,hi'] at this
      exact this.symm
     refine W.req_i ⟨by omega,hlt⟩ ?_
     rw [w64_succ (by omega)]
     refine hK hi' _ ⟨B,?_,?_⟩
     ·rw [hB,List.range_succ,List.map_append,hb];simp
     ·have hr:rd ((⟨#[]⟩:ByteArray),(⟨#[]⟩:ByteArray)) (((List.range i).map fun i=>key (rs o.Refs i) (nxt o.Refs i))++b::B) (i:Int)=raw i:=by
       unfold rd
       rw [show ((i:Nat):Int).toNat=i by omega,List.getD_eq_getElem?_getD,List.getElem?_append_right (by simp)]
       simp [hb]
      rw [hr,show ((i:Nat):Int).toNat=i by omega,set_mid _ _ _ _ (by simp),List.range_succ,List.map_append]
      simp [raw,key]
   ·have:i=n:=by simp at hge;omega
    subst this
    have:B=[]:=by cases B with
     | nil=>rfl
     | cons=>simp at hBl
    subst this
    rw [List.append_nil]
    exact hq
  refine W.up2 (o.Refs.length-1) (fun i x=>x=(List.range i).map raw) rfl (fun K i x hi hI hK=>?_)
  subst hI
  unfold Vp.l2
  rw [show (w64 ((i:Int)+1))=((i+1:Nat):Int) from w64_succ (by omega)]
  refine W.dec_i (fun hlt=>?_) (fun hge=>?_)
  ·have hn:nxt o.Refs i=rs o.Refs (i+1):=if_pos (by omega)
   refine W.req_i ⟨by omega,by omega⟩ (W.req_i ⟨by omega,by omega⟩ (W.req_i ?_ ?_))
   ·simp;omega
   ·refine hK (by omega) _ ?_
    rw [List.range_succ,List.map_append]
    simp only [raw,hn,List.map_cons,List.map_nil]
  ·refine W.ite_i (fun k3=>?_) (fun k3=>?_)
   ·rw [beq_iff_eq] at k3
    have h1:=h3 k3
    rw [if_pos k3] at hq
    have e:w64 ((o.Refs.length:Int)-1)=((o.Refs.length-1:Nat):Int):=by
     rw [w64_id (by omega) (by omega)];omega
    have ei:i=o.Refs.length-1:=by omega
    rw [e,← ei]
    refine W.req_i ⟨by omega,by omega⟩ (W.req_i ⟨by omega,by omega⟩ (W.req_i ?_ ?_))
    ·simp;omega
    ·have hn:nxt o.Refs i=rs o.Refs 0:=if_neg (by omega)
     have:=c2 (i+1) (by omega) (by rw [show i+1=o.Refs.length by omega];exact hq)
     rw [List.range_succ,List.map_append] at this
     simp only [raw,hn,List.map_cons,List.map_nil] at this
     exact this
   ·rw [beq_eq_false_iff_ne] at k3
    rw [if_neg k3] at hq
    have ei:i=o.Refs.length-1:=by omega
    exact c2 i (by omega) (by rw [ei];exact hq)
 ·rw [if_neg hk] at hq
  refine W.ite_i (fun _=>hq) (fun k=>?_)
  rw [Bool.and_eq_false_iff,bne_eq_false_iff_eq,bne_eq_false_iff_eq] at k
  exact absurd k hk
open Classical in
noncomputable def own (m:Map) (n:Nat) (s:Key):List ByteArray:=((List.range n).filter (fun i=>decide (SoundP m (ob m i)∧s∈sides (ob m i)))).map (fun i=>(ob m i).Id)
open Classical in
theorem own_succ {m:Map} {n:Nat} {s:Key}:own m (n+1) s=own m n s++(if SoundP m (ob m n)∧s∈sides (ob m n) then [(ob m n).Id] else []):=by
 unfold own
 rw [List.range_succ,List.filter_append,List.map_append]
 congr 1
 by_cases h:SoundP m (ob m n)∧s∈sides (ob m n)
 ·rw [if_pos h,List.filter_cons_of_pos (by simpa using h)];rfl
 ·rw [if_neg h,List.filter_cons_of_neg (by simpa using h)];rfl
theorem own_mem {m:Map} {n:Nat} {s:Key} {a:ByteArray}:a∈own m n s↔∃ i,i<n∧a=(ob m i).Id∧SoundP m (ob m i)∧s∈sides (ob m i):=by
 unfold own
 simp only [List.mem_map,List.mem_filter,List.mem_range,decide_eq_true_eq]
 constructor
 ·rintro ⟨i,⟨h1,h2⟩,rfl⟩;exact ⟨i,h1,rfl,h2⟩
 ·rintro ⟨i,h1,rfl,h2⟩;exact ⟨i,⟨h1,h2⟩,rfl⟩
theorem own_len {m:Map} {n:Nat} {s:Key}:(own m n s).length≤n:=by
 unfold own
 rw [List.length_map]
 refine Nat.le_trans (List.length_filter_le _ _) ?_
 rw [List.length_range]
 exact Nat.le_refl _
theorem own_fresh {m:Map} (h:MapOk m) {n:Nat} (hn:n<m.Objects.length) {s:Key}:(ob m n).Id∉own m n s:=fun k=>by
 obtain ⟨i,hi,e,_⟩:=own_mem.1 k
 have:=h.inj hn (by omega) e
 omega
structure Ks (ow:Key→List ByteArray) (L:List Key):Prop where
 rise:L.Pairwise kLt
 mem:∀ s,s∈L↔ow s≠[]
theorem Ks.unique {ow:Key→List ByteArray} {L L':List Key} (h:Ks ow L) (h':Ks ow L'):L=L':=
 rise_unique (lt:=kLt) (fun a=>kLt.irr) (fun a b c=>kLt.trans) h.rise h'.rise fun s=>(h.mem s).trans (h'.mem s).symm
noncomputable def bd (m:Map) (ow:Key→List ByteArray) (s:Key):Jr:=⟨s.1,s.2,pos m s.1,pos m s.2,ow s⟩
theorem rd_mid {α:Type} {z:α} {A:List α} {b:α} {B:List α} {n:Nat} (h:n=A.length):rd z (A++b::B) (n:Int)=b:=by
 subst h
 unfold rd
 rw [show ((A.length:Nat):Int).toNat=A.length by omega,List.getD_eq_getElem?_getD,List.getElem?_append_right (by omega)]
 simp
open Classical in
noncomputable def addO (ow:Key→List ByteArray) (s:Key) (id:ByteArray):Key→List ByteArray:=fun t=>if t=s∧(ow s=[]∨rs (ow s) ((ow s).length-1)≠id) then ow t++[id] else ow t
theorem ref13_put_b {m:Map} (h:MapOk m) {s:Key} (h1:∃ j:Nat,Holds m s.1 j) (h2:∃ j:Nat,Holds m s.2 j) {ow:Key→List ByteArray} {L:List Key} (hL:Ks ow L) (hl:L.length≤1000000000000) (ho:(ow s).length≤1000000000000) {id:ByteArray} {Q:List Jr→Prop} (hq:∀ L',Ks (addO ow s id) L'→L'.length≤L.length+1→Q (L'.map (bd m (addO ow s id)))):Vj.F (L.map (bd m ow)) m s id Q:=by
 refine W.up1 L.length (fun i=>∃ A B,L=A++B∧A.length=i∧∀ a∈A,kLt a s) ⟨[],L,rfl,rfl,by simp⟩ (fun K i hi hI hK=>?_)
 obtain ⟨A,B,rfl,rfl,hA⟩:=hI
 have hle:((A++B).map (bd m ow)).length=A.length+B.length:=by simp
 have c2:∀ (A B:List Key) (b:Jr) ,b.Owners.length≤1000000000000→((b.Owners=[]∨rs b.Owners (b.Owners.length-1)≠id)→Q (A.map (bd m ow)++{ b with Owners:=b.Owners++[id] }::B.map (bd m ow)))→(¬ (b.Owners=[]∨rs b.Owners (b.Owners.length-1)≠id)→Q (A.map (bd m ow)++b::B.map (bd m ow)))→Vj.c2 id (A.length:Int) (A.map (bd m ow)++b::B.map (bd m ow)) Q:=fun A B b hb q1 q2=>by
  have hlen:(A.map (bd m ow)++b::B.map (bd m ow)).length=A.length+1+B.length:=by simp;omega
  unfold Vj.c2
  rw [rd_mid (by simp),show ((A.length:Nat):Int).toNat=A.length by omega,set_mid _ _ _ _ (by simp),hlen]
  have hx:0≤(A.length:Int)∧(A.length:Int)<((A.length+1+B.length:Nat):Int):=⟨by omega,by omega⟩
  have e0:∀ k,b.Owners.length=k+1→w64 ((b.Owners.length:Int)-1)=((b.Owners.length-1:Nat):Int):=fun k hk=>by
   rw [w64_id (by omega) (by omega)];omega
  refine W.req_i hx (W.req_i hx (W.req_i (fun _=>hx) (W.req_i (fun _=>hx) (W.req_i (fun k=>?_) (W.ite_i (fun k=>?_) (fun k=>?_))))))
  ·rw [Bool.not_eq_true',beq_eq_false_iff_ne] at k
   rw [e0 (b.Owners.length-1) (by omega)]
   exact ⟨by omega,by omega⟩
  ·refine W.req_i hx (W.req_i hx (W.req_i ?_ (W.req_i ?_ (W.req_i hx (W.req_i hx ?_)))))
   ·simp;omega
   ·simp;omega
   ·refine q1 ?_
    by_cases hz:b.Owners.length=0
    ·exact .inl (List.length_eq_zero_iff.1 hz)
    ·right
     rw [e0 (b.Owners.length-1) (by omega),Bool.or_eq_true,Bool.not_eq_true',sEq_false,beq_iff_eq] at k
     rcases k with k | k
     ·omega
     ·exact k
  ·refine q2 ?_
   rw [Bool.or_eq_false_iff,beq_eq_false_iff_ne,Bool.not_eq_false',sEq_eq] at k
   rw [e0 (b.Owners.length-1) (by omega)] at k
   rintro (hz | hz)
   ·rw [hz] at k;exact k.1 rfl
   ·exact hz k.2
 have sw:∀ T:List Key,s∉T→T.map (bd m ow)=T.map (bd m (addO ow s id)):=fun T hT=>by
  refine List.map_congr_left fun t ht=>?_
  have:t≠s:=fun e=>hT (e ▸ ht)
  unfold bd addO
  rw [if_neg (fun k=>this k.1)]
 have sA:s∉A:=fun k=>(hA s k).irr
 unfold Vj.l1
 match B,hL,hl,hi,hK,hle,hq with
 | [],hL,hl,hi,hK,hle,hq=>
  have hlt:(decide ((A.length:Int)<(((A++([]:List Key)).map (bd m ow)).length:Int)))=false:=by simp
  rw [hlt]
  refine W.req_i (fun k=>by simp at k) (W.req_i (fun k=>by simp at k) (W.req_i (fun k=>by simp at k) ?_))
  rw [Bool.false_and]
  show Vj.c1 _ m s id (A.length:Int) Q
  have hb:((A.length:Int)==(((A++([]:List Key)).map (bd m ow)).length:Int))=true:=by simp
  unfold Vj.c1
  rw [hb]
  refine W.req_i (fun k=>by simp at k) (W.req_i (fun k=>by simp at k) ?_)
  refine W.ite_i (fun _=>W.bind_i (ref13_Find_b h (fun k=>absurd h1 k) fun j1 hj1=>W.req_i ⟨by omega,by have:=hj1.1;omega⟩ (W.bind_i (ref13_Find_b h (fun k=>absurd h2 k) fun j2 hj2=>W.req_i ⟨by omega,by have:=hj2.1;omega⟩ ?_)))) (fun k=>by simp at k)
  have hs0:ow s=[]:=by
   apply Classical.byContradiction
   intro k
   have:=(hL.mem s).2 k
   rw [List.append_nil] at this
   exact sA this
  have p1:=pos_eq h hj1
  have p2:=pos_eq h hj2
  simp only [List.append_nil] at hL hl ⊢
  refine W.req_i ⟨by omega,by simp⟩ (W.req_i (by simp) (W.req_i (by simp;omega) (W.req_i (by simp;omega) (W.req_i (by simp) (W.req_i (by simp;omega) ?_)))))
  have e:((([]:List Jr)++(((A.map (bd m ow)).take ((A.length:Int)).toNat).drop 0))++([⟨s.1,s.2,(rd zObject m.Objects (j1:Int)).At,(rd zObject m.Objects (j2:Int)).At,([]:List ByteArray)⟩]:List Jr))++(((A.map (bd m ow)).take (A.map (bd m ow)).length).drop ((A.length:Int)).toNat)=A.map (bd m ow)++(⟨s.1,s.2,pos m s.1,pos m s.2,[]⟩:Jr)::([]:List Key).map (bd m ow):=by
   rw [p1,p2,List.take_of_length_le (by simp)];simp [ob]
  rw [e]
  refine c2 A [] _ (by simp) (fun _=>?_) (fun k=>absurd (.inl rfl) k)
  have:=hq (A++[s]) ⟨?_,fun t=>?_⟩ (by simp)
  ·rw [List.map_append,← sw A sA] at this
   have ea:bd m (addO ow s id) s=(⟨s.1,s.2,pos m s.1,pos m s.2,[id]⟩:Jr):=by
    unfold bd addO
    rw [if_pos ⟨rfl,.inl hs0⟩,hs0];rfl
   simpa [ea] using this
  ·rw [List.pairwise_append]
   exact ⟨hL.rise,by simp,fun a ha b hb=>by simp at hb;subst hb;exact hA a ha⟩
  ·unfold addO
   rw [List.mem_append,List.mem_singleton,hL.mem]
   by_cases et:t=s
   ·subst et;rw [if_pos ⟨rfl,.inl hs0⟩];simp
   ·rw [if_neg (fun k=>et k.1)];simp [et]
 | b::B,hL,hl,hi,hK,hle,hq=>
  have hlt:(decide ((A.length:Int)<(((A++b::B).map (bd m ow)).length:Int)))=true:=by simp;omega
  have hx:0≤(A.length:Int)∧(A.length:Int)<(((A++b::B).map (bd m ow)).length:Int):=⟨by omega,by simpa using hlt⟩
  have hrd:rd Je ((A++b::B).map (bd m ow)) (A.length:Int)=bd m ow b:=by
   rw [List.map_append,List.map_cons];exact rd_mid (by simp)
  rw [hlt,hrd]
  refine W.req_i (fun _=>hx) (W.req_i (fun _=>hx) (W.req_i (fun _=>hx) (W.ite_i (fun k=>?_) (fun k=>?_))))
  ·rw [w64_succ (by simp at hl;omega)]
   refine hK (by simp) ⟨A++[b],B,by simp,by simp,fun a ha=>?_⟩
   rcases List.mem_append.1 ha with ha | ha
   ·exact hA a ha
   ·rw [List.mem_singleton] at ha
    subst ha
    rw [Bool.true_and,Bool.or_eq_true,Bool.and_eq_true,sEq_eq] at k
    exact k
  ·have hge:¬ kLt b s:=fun hh=>by
    have:(true&&(sLt (bd m ow b).A s.1||(sEq (bd m ow b).A s.1&&sLt (bd m ow b).B s.2)))=true:=by
     rw [Bool.true_and,Bool.or_eq_true,Bool.and_eq_true,sEq_eq];exact hh
    rw [this] at k;cases k
   have hne:((A.length:Int)==(((A++b::B).map (bd m ow)).length:Int))=false:=by rw [beq_eq_false_iff_ne];simp;omega
   have hr:=List.pairwise_append.1 hL.rise
   have hrB:=List.pairwise_cons.1 hr.2.1
   unfold Vj.c1
   rw [hne,hrd]
   refine W.req_i (fun _=>hx) (W.req_i (fun _=>hx) (W.ite_i (fun k=>?_) (fun k=>?_)))
   ·have nb:s≠b:=by
     rintro rfl
     rw [Bool.or_eq_true,Bool.or_eq_true,Bool.not_eq_true',Bool.not_eq_true',sEq_false,sEq_false] at k
     rcases k with (k | k) | k
     ·cases k
     ·exact k rfl
     ·exact k rfl
    have hsb:kLt s b:=by
     rcases kLt.tri s b with k | k | k
     ·exact k
     ·exact absurd k nb
     ·exact absurd k hge
    have sB:s∉b::B:=fun hh=>by
     rcases List.mem_cons.1 hh with hh | hh
     ·exact nb hh
     ·exact (kLt.trans hsb (hrB.1 s hh)).irr
    have hs0:ow s=[]:=by
     apply Classical.byContradiction
     intro k
     rcases List.mem_append.1 ((hL.mem s).2 k) with k | k
     ·exact sA k
     ·exact sB k
    refine W.bind_i (ref13_Find_b h (fun k=>absurd h1 k) fun j1 hj1=>W.req_i ⟨by omega,by have:=hj1.1;omega⟩ (W.bind_i (ref13_Find_b h (fun k=>absurd h2 k) fun j2 hj2=>W.req_i ⟨by omega,by have:=hj2.1;omega⟩ ?_)))
    have p1:=pos_eq h hj1
    have p2:=pos_eq h hj2
    have hl':A.length+(B.length+1)≤1000000000000:=by simpa using hl
    refine W.req_i ⟨by omega,by simp;omega⟩ (W.req_i (by simp) (W.req_i (by simp;omega) (W.req_i (by simp;omega) (W.req_i (by simp) (W.req_i (by simp;omega) ?_)))))
    have e:((([]:List Jr)++((((A++b::B).map (bd m ow)).take ((A.length:Int)).toNat).drop 0))++([⟨s.1,s.2,(rd zObject m.Objects (j1:Int)).At,(rd zObject m.Objects (j2:Int)).At,([]:List ByteArray)⟩]:List Jr))++((((A++b::B).map (bd m ow)).take ((A++b::B).map (bd m ow)).length).drop ((A.length:Int)).toNat)=A.map (bd m ow)++(⟨s.1,s.2,pos m s.1,pos m s.2,[]⟩:Jr)::(b::B).map (bd m ow):=by
     rw [p1,p2,List.take_length,List.map_append,show ((A.length:Nat):Int).toNat=(A.map (bd m ow)).length by simp,List.take_left,List.drop_left];simp [ob]
    rw [e]
    refine c2 A (b::B) _ (by simp) (fun _=>?_) (fun k=>absurd (.inl rfl) k)
    have:=hq (A++s::b::B) ⟨?_,fun t=>?_⟩ (by simp;omega)
    ·rw [List.map_append,List.map_cons,← sw A sA,← sw _ sB] at this
     have ea:bd m (addO ow s id) s=(⟨s.1,s.2,pos m s.1,pos m s.2,[id]⟩:Jr):=by
      unfold bd addO
      rw [if_pos ⟨rfl,.inl hs0⟩,hs0];rfl
     rw [ea] at this
     exact this
    ·rw [List.pairwise_append,List.pairwise_cons]
     refine ⟨hr.1,⟨fun t ht=>?_,hr.2.1⟩,fun a ha c hc=>?_⟩
     ·rcases List.mem_cons.1 ht with rfl | ht
      ·exact hsb
      ·exact hsb.trans (hrB.1 t ht)
     ·rcases List.mem_cons.1 hc with rfl | hc
      ·exact hA a ha
      ·exact hr.2.2 a ha c hc
    ·unfold addO
     have:=hL.mem t
     rw [List.mem_append] at this
     rw [List.mem_append,List.mem_cons]
     by_cases et:t=s
     ·subst et;rw [if_pos ⟨rfl,.inl hs0⟩];simp
     ·rw [if_neg (fun k=>et k.1),← this];simp [et]
   ·rw [Bool.or_eq_false_iff,Bool.or_eq_false_iff,Bool.not_eq_false',Bool.not_eq_false',sEq_eq,sEq_eq] at k
    have es:b=s:=Prod.ext k.1.2 k.2
    subst es
    have sB:b∉B:=fun hh=>(hrB.1 b hh).irr
    have e:(A++b::B).map (bd m ow)=A.map (bd m ow)++bd m ow b::B.map (bd m ow):=by simp
    rw [e]
    have fin:Ks (addO ow b id) (A++b::B):=⟨hL.rise,fun t=>by
     rw [hL.mem]
     unfold addO
     split
     ·rename_i hh
      constructor
      ·intro _;simp
      ·intro _;rw [hh.1];exact (hL.mem b).1 (by simp)
     ·exact Iff.rfl⟩
    have:=hq _ fin (by omega)
    rw [List.map_append,List.map_cons,← sw A sA,← sw B sB] at this
    refine c2 A B _ ho (fun hc=>?_) (fun hc=>?_)
    ·have ea:bd m (addO ow b id) b={ bd m ow b with Owners:=(bd m ow b).Owners++[id] }:=by
      unfold bd addO
      rw [if_pos ⟨rfl,hc⟩]
     rw [ea] at this;exact this
    ·have ea:bd m (addO ow b id) b=bd m ow b:=by
      unfold bd addO
      rw [if_neg (fun hh=>hc hh.2)]
     rw [ea] at this;exact this
open Classical in
noncomputable def ownK (m:Map) (n k:Nat) (s:Key):List ByteArray:=own m n s++(if SoundP m (ob m n)∧s∈(sides (ob m n)).take k then [(ob m n).Id] else [])
theorem ownK_zero {m:Map} {n:Nat}:ownK m n 0=own m n:=by
 funext s;unfold ownK;simp
theorem ownK_all {m:Map} {n k:Nat} (hk:(sides (ob m n)).length≤k∨¬ SoundP m (ob m n)):ownK m n k=own m (n+1):=by
 funext s
 rw [own_succ]
 unfold ownK
 rcases hk with h | h
 ·rw [List.take_of_length_le h]
 ·rw [if_neg (fun k=>h k.1),if_neg (fun k=>h k.1)]
theorem ownK_mem {m:Map} (h:MapOk m) {n k:Nat} (hn:n<m.Objects.length) (hs:SoundP m (ob m n)) {s:Key}:(ob m n).Id∈ownK m n k s↔s∈(sides (ob m n)).take k:=by
 unfold ownK
 rw [List.mem_append]
 constructor
 ·rintro (k | k)
  ·exact absurd k (own_fresh h hn)
  ·split at k
   ·rename_i hh;exact hh.2
   ·cases k
 ·intro k;right;rw [if_pos ⟨hs,k⟩];simp
open Classical in
theorem ownK_succ {m:Map} (h:MapOk m) {n k:Nat} (hn:n<m.Objects.length) (hs:SoundP m (ob m n)) (hk:k<(sides (ob m n)).length) (t:Key):ownK m n (k+1) t=if t=(sides (ob m n))[k]∧(sides (ob m n))[k]∉(sides (ob m n)).take k then ownK m n k t++[(ob m n).Id] else ownK m n k t:=by
 unfold ownK
 rw [List.take_add_one,List.getElem?_eq_getElem hk]
 simp only [Option.toList_some,List.mem_append,List.mem_singleton]
 by_cases e:t=(sides (ob m n))[k]
 ·subst e
  by_cases hm:(sides (ob m n))[k]∈(sides (ob m n)).take k
  ·rw [if_pos ⟨hs,.inl hm⟩,if_neg (fun k=>k.2 hm),if_pos ⟨hs,hm⟩]
  ·rw [if_pos ⟨hs,.inr rfl⟩,if_pos ⟨rfl,hm⟩,if_neg (fun k=>hm k.2),List.append_nil]
 ·rw [if_neg (c:=t=(sides (ob m n))[k]∧_) (fun k=>e k.1)]
  congr 1
  simp [e]
theorem ownK_len {m:Map} {n k:Nat} {s:Key}:(ownK m n k s).length≤n+1:=by
 unfold ownK
 rw [List.length_append]
 have:=own_len (m:=m) (n:=n) (s:=s)
 split<;>simp<;>omega
theorem rs_last {l:List ByteArray} {x:ByteArray}:rs (l++[x]) ((l++[x]).length-1)=x:=by
 have:(l++[x]).length-1=l.length:=by simp
 rw [this];exact rd_mid rfl
theorem rs_mem {l:List ByteArray} {i:Nat} (h:i<l.length):rs l i∈l:=by
 unfold rs;rw [rd_nat h];exact List.getElem_mem h
theorem ownK_add {m:Map} (h:MapOk m) {n k:Nat} (hn:n<m.Objects.length) (hs:SoundP m (ob m n)) (hk:k<(sides (ob m n)).length):addO (ownK m n k) (sides (ob m n))[k] (ob m n).Id=ownK m n (k+1):=by
 funext t
 rw [ownK_succ h hn hs hk]
 unfold addO
 have e:(ownK m n k (sides (ob m n))[k]=[]∨rs (ownK m n k (sides (ob m n))[k]) ((ownK m n k (sides (ob m n))[k]).length-1)≠(ob m n).Id)↔(sides (ob m n))[k]∉(sides (ob m n)).take k:=by
  rw [← ownK_mem h hn hs]
  constructor
  ·rintro (e | e) hm
   ·rw [e] at hm;cases hm
   ·apply e
    have hm':=(ownK_mem h hn hs).1 hm
    have e2:ownK m n k (sides (ob m n))[k]=own m n (sides (ob m n))[k]++[(ob m n).Id]:=by unfold ownK;rw [if_pos ⟨hs,hm'⟩]
    rw [e2]
    exact rs_last
  ·intro hm
   by_cases e:ownK m n k (sides (ob m n))[k]=[]
   ·exact .inl e
   ·right
    intro e2
    apply hm
    have hl:(ownK m n k (sides (ob m n))[k]).length-1<(ownK m n k (sides (ob m n))[k]).length:=by
     have:=List.length_pos_iff.2 e
     omega
    have:=rs_mem hl
    rw [e2] at this
    exact this
 by_cases c:t=(sides (ob m n))[k]∧(sides (ob m n))[k]∉(sides (ob m n)).take k
 ·rw [if_pos ⟨c.1,e.2 c.2⟩,if_pos c]
 ·rw [if_neg (fun hh=>c ⟨hh.1,e.1 hh.2⟩),if_neg c]
theorem sMin_or (a b:ByteArray):sMin a b=a∨sMin a b=b:=by
 unfold sMin;split
 ·exact .inl rfl
 ·exact .inr rfl
theorem sMax_or (a b:ByteArray):sMax a b=a∨sMax a b=b:=by
 unfold sMax;split
 ·exact .inl rfl
 ·exact .inr rfl
theorem sides_refs {o:Object} {s:Key} (h:s∈sides o):(∃ i:Nat,i<o.Refs.length∧s.1=rs o.Refs i)∧∃ i:Nat,i<o.Refs.length∧s.2=rs o.Refs i:=by
 unfold sides at h
 split at h
 ·simp only [List.mem_map,List.mem_range] at h
  obtain ⟨i,hi,rfl⟩:=h
  have hi':i<o.Refs.length:=by unfold sidesN at hi;split at hi<;>omega
  have hn:∃ j:Nat,j<o.Refs.length∧nxt o.Refs i=rs o.Refs j:=by
   unfold nxt
   split
   ·rename_i hh;exact ⟨i+1,hh,rfl⟩
   ·exact ⟨0,by omega,rfl⟩
  obtain ⟨j,hj,ej⟩:=hn
  unfold key
  constructor
  ·rcases sMin_or (rs o.Refs i) (nxt o.Refs i) with e | e
   ·exact ⟨i,hi',e⟩
   ·exact ⟨j,hj,e.trans ej⟩
  ·rcases sMax_or (rs o.Refs i) (nxt o.Refs i) with e | e
   ·exact ⟨i,hi',e⟩
   ·exact ⟨j,hj,e.trans ej⟩
 ·cases h
theorem sides_held {m:Map} {o:Object} (hs:SoundP m o) {s:Key} (h:s∈sides o):(∃ j:Nat,Holds m s.1 j)∧∃ j:Nat,Holds m s.2 j:=by
 obtain ⟨⟨i,hi,e⟩,⟨j,hj,e2⟩⟩:=sides_refs h
 obtain ⟨a,ha,_⟩:=hs i hi
 obtain ⟨b,hb,_⟩:=hs j hj
 exact ⟨⟨a,e ▸ ha⟩,⟨b,e2 ▸ hb⟩⟩
noncomputable abbrev owners (m:Map):Key→List ByteArray:=own m m.Objects.length
theorem ref13_Borders_b {m:Map} (hf:MapFit m) {Q:List Jr→Prop} (hn:¬ MapOk m→Q []) (hq:MapOk m→∀ L,Ks (owners m) L→L.length≤2001*m.Objects.length→Q (L.map (bd m (owners m)))):Vf.F m Q:=by
 refine W.bind_i (ref13_Valid_b hf fun b hb=>W.ite_i (fun k=>hn fun hv=>?_) (fun k=>?_))
 ·rw [hb.2 hv] at k;cases k
 have h:MapOk m:=by rw [Bool.not_eq_false'] at k;exact hb.1 k
 have hl:=h.few
 refine W.up2 m.Objects.length (fun i x=>∃ L,Ks (own m i) L∧L.length≤2001*i∧x=L.map (bd m (own m i))) ⟨[],⟨by simp,fun s=>by simp [own]⟩,by simp,rfl⟩ (fun K i x hi hI hK=>?_)
 obtain ⟨L,hL,hll,rfl⟩:=hI
 refine W.dec_i (fun hlt=>W.req_i ⟨by omega,hlt⟩ (W.bind_i ?_)) (fun hge=>?_)
 ·have hi':i<m.Objects.length:=by omega
  have ho:=h.each i hi'
  have hc:=ho.count
  refine ref13_Sides_b (o:=ob m i) hc.1 (fun k=>by have:=hc.2.2.2.1 k;omega) ?_
  have hsl:=sides_len (o:=ob m i)
  have hc1:=hc.1
  refine W.up2 (sides (ob m i)).length (fun k x=>∃ L,Ks (ownK m i k) L∧L.length≤2001*i+k∧x=L.map (bd m (ownK m i k))) ⟨L,by rw [ownK_zero];exact hL,by omega,by rw [ownK_zero]⟩ (fun K2 k x hk hI2 hK2=>?_)
  obtain ⟨L2,hL2,hll2,rfl⟩:=hI2
  have done:((sides (ob m i)).length≤k∨¬ SoundP m (ob m i))→Vf.c2 (i:Int) K (L2.map (bd m (ownK m i k))) Q:=fun hd=>by
   show K _ (w64 ((i:Int)+1)) Q
   rw [w64_succ (by omega)]
   rw [ownK_all hd] at hL2 ⊢
   exact hK hi' _ ⟨L2,hL2,by omega,rfl⟩
  unfold Vf.l2
  by_cases hd:(k:Int)<((sides (ob m i)).length:Int)
  ·rw [decide_eq_true hd]
   have hk':k<(sides (ob m i)).length:=by omega
   have hkind:(ob m i).Kind=2∨(ob m i).Kind=3:=by
    apply Classical.byContradiction
    intro hh
    unfold sides at hk'
    rw [if_neg hh] at hk'
    simp at hk'
   refine W.bind_i (ref13_Sound_b h (o:=ob m i) hkind hc1 fun b hb=>?_)
   rw [Bool.true_and]
   refine W.ite_i (fun hbt=>?_) (fun hbf=>done (.inr fun hs=>by rw [hb.2 hs] at hbf;cases hbf))
   have hs:=hb.1 hbt
   refine W.req_i ⟨by omega,hd⟩ (W.bind_i ?_)
   have er:rd ((⟨#[]⟩:ByteArray),(⟨#[]⟩:ByteArray)) (sides (ob m i)) (k:Int)=(sides (ob m i))[k]:=rd_nat hk'
   rw [er]
   have hh:=sides_held hs (List.getElem_mem hk')
   have hol:=ownK_len (m:=m) (n:=i) (k:=k) (s:=(sides (ob m i))[k])
   refine ref13_put_b h hh.1 hh.2 hL2 (by omega) (by omega) fun L3 hL3 hll3=>?_
   rw [show addO (ownK m i k) (sides (ob m i))[k] (rd zObject m.Objects (i:Int)).Id=ownK m i (k+1) from ownK_add h hi' hs hk'] at hL3 ⊢
   rw [w64_succ (by omega)]
   exact hK2 hk' _ ⟨L3,hL3,by omega,rfl⟩
  ·rw [decide_eq_false hd]
   refine W.bind_i ?_
   show Vf.c2 (i:Int) K (L2.map (bd m (ownK m i k))) Q
   exact done (.inl (by omega))
 ·have:i=m.Objects.length:=by omega
  subst this
  exact hq h L hL hll
end Go.Gp.Gb
end
section
set_option linter.unusedVariables false
namespace Go.Gp.Gb.Geo
theorem sq_nonneg (x:Int):0≤x*x:=by
 rcases Int.le_total 0 x with h | h
 ·exact Int.mul_nonneg h h
 ·exact Int.mul_nonneg_of_nonpos_of_nonpos h h
theorem par {ux uy vx vy wx wy:Int} (h1:ux*vy=uy*vx) (h2:ux*wy=uy*wx) (h:ux≠0∨uy≠0):vx*wy=vy*wx:=by
 have e1:ux*(vx*wy-vy*wx)=0:=by grind
 have e2:uy*(vx*wy-vy*wx)=0:=by grind
 rcases h with h | h
 ·rcases Int.mul_eq_zero.1 e1 with h' | h'
  ·exact absurd h' h
  ·omega
 ·rcases Int.mul_eq_zero.1 e2 with h' | h'
  ·exact absurd h' h
  ·omega
theorem between {ux uy vx vy wx wy:Int} (h:ux*vy=uy*vx) (hw:wx*uy≠wy*ux∨wx*vy≠wy*vx):(ux*vx≤0∧uy*vy≤0)↔(wx*uy-wy*ux)*(wx*vy-wy*vx)≤0:=by
 have eq:(uy*vy)*((wx*uy-wy*ux)*(wx*vy-wy*vx))=(wx*(uy*vy)-wy*(ux*vy))*(wx*(uy*vy)-wy*(ux*vy)):=by grind
 have ep:(ux*vx)*((wx*uy-wy*ux)*(wx*vy-wy*vx))=(wy*(ux*vx)-wx*(ux*vy))*(wy*(ux*vx)-wx*(ux*vy)):=by grind
 have sq1:=sq_nonneg (wx*(uy*vy)-wy*(ux*vy))
 have sq2:=sq_nonneg (wy*(ux*vx)-wx*(ux*vy))
 rw [← eq] at sq1
 rw [← ep] at sq2
 generalize hE:(wx*uy-wy*ux)*(wx*vy-wy*vx)=e at *
 constructor
 ·rintro ⟨hp,hq⟩
  by_cases hq0:uy*vy=0
  ·have hk:ux*vy=0:=by
    have:(ux*vy)*(ux*vy)=0:=by grind
    rcases Int.mul_eq_zero.1 this with h' | h'<;>exact h'
   have:e=wy*wy*(ux*vx):=by grind
   rw [this]
   exact Int.mul_nonpos_of_nonneg_of_nonpos (sq_nonneg wy) hp
  ·have hq':uy*vy<0:=by omega
   by_cases he:e≤0
   ·exact he
   ·exfalso
    have:uy*vy*e<0:=Int.mul_neg_of_neg_of_pos hq' (by omega)
    omega
 ·intro he
  by_cases he0:e=0
  ·rw [he0] at hE
   have huv:(ux=0∧uy=0)∨(vx=0∧vy=0):=by
    rcases Int.mul_eq_zero.1 hE with h1 | h1
    ·left
     by_cases hu:ux=0∧uy=0
     ·exact hu
     ·exfalso
      have:=par (ux:=ux) (uy:=uy) (vx:=wx) (vy:=wy) (wx:=vx) (wy:=vy) (by grind) h (by omega)
      rcases hw with hw | hw<;>omega
    ·right
     by_cases hv:vx=0∧vy=0
     ·exact hv
     ·exfalso
      have:=par (ux:=vx) (uy:=vy) (vx:=wx) (vy:=wy) (wx:=ux) (wy:=uy) (by grind) (by grind) (by omega)
      rcases hw with hw | hw<;>omega
   rcases huv with ⟨a,b⟩ | ⟨a,b⟩<;>rw [a,b]<;>simp
  ·have he':e<0:=by omega
   constructor
   ·by_cases hp:ux*vx≤0
    ·exact hp
    ·exfalso
     have:ux*vx*e<0:=Int.mul_neg_of_pos_of_neg (by omega) he'
     omega
   ·by_cases hq:uy*vy≤0
    ·exact hq
    ·exfalso
     have:uy*vy*e<0:=Int.mul_neg_of_pos_of_neg (by omega) he'
     omega
theorem prod_le {x a b:Int}:(a-x)*(b-x)≤0↔(a≤x∧x≤b)∨(b≤x∧x≤a):=by
 constructor
 ·intro h
  rcases Int.lt_trichotomy a x with h1 | h1 | h1
  ·by_cases h2:b<x
   ·have:=Int.mul_pos_of_neg_of_neg (show a-x<0 by omega) (show b-x<0 by omega);omega
   ·left;omega
  ·omega
  ·by_cases h2:x<b
   ·have:=Int.mul_pos (show 0<a-x by omega) (show 0<b-x by omega);omega
   ·right;omega
 ·rintro (h | h)
  ·exact Int.mul_nonpos_of_nonpos_of_nonneg (by omega) (by omega)
  ·exact Int.mul_nonpos_of_nonneg_of_nonpos (by omega) (by omega)
def crs (a b c:Point):Int:=(b.X-a.X)*(c.Y-a.Y)-(b.Y-a.Y)*(c.X-a.X)
def Bx (s:Segment) (p:Point):Prop:=(s.A.X≤p.X∧p.X≤s.B.X∨s.B.X≤p.X∧p.X≤s.A.X)∧(s.A.Y≤p.Y∧p.Y≤s.B.Y∨s.B.Y≤p.Y∧p.Y≤s.A.Y)
def On (s:Segment) (p:Point):Prop:=Bx s p∧crs s.A s.B p=0
theorem pt_ext {p q:Point} (h1:p.X=q.X) (h2:p.Y=q.Y):p=q:=by cases p;cases q;simp_all
theorem pt_ne {p q:Point} (h:p≠q):p.X≠q.X∨p.Y≠q.Y:=by
 by_cases h1:p.X=q.X
 ·right;exact fun h2=>h (pt_ext h1 h2)
 ·left;exact h1
theorem on_A (s:Segment):On s s.A:=⟨by unfold Bx;omega,by unfold crs;grind⟩
theorem on_B (s:Segment):On s s.B:=⟨by unfold Bx;omega,by unfold crs;grind⟩
theorem crs_swap (a b c:Point):crs b a c=- crs a b c:=by unfold crs;grind
theorem crs_diff (a b c d:Point):crs a b c-crs a b d=crs c d b-crs c d a:=by unfold crs;grind
theorem on_iff {a b p d:Point} (h:crs a b p=0) (hd:crs a b d≠0):Bx ⟨a,b⟩ p↔crs p d a*crs p d b≤0:=by
 have k:=between (ux:=a.X-p.X) (uy:=a.Y-p.Y) (vx:=b.X-p.X) (vy:=b.Y-p.Y) (wx:=d.X-p.X) (wy:=d.Y-p.Y) (by unfold crs at h;grind) (by
  by_cases h1:(d.X-p.X)*(a.Y-p.Y)=(d.Y-p.Y)*(a.X-p.X)
  ·right
   intro h2
   apply hd
   unfold crs at h ⊢
   grind
  ·exact .inl h1)
 have e1:crs p d a=(d.X-p.X)*(a.Y-p.Y)-(d.Y-p.Y)*(a.X-p.X):=rfl
 have e2:crs p d b=(d.X-p.X)*(b.Y-p.Y)-(d.Y-p.Y)*(b.X-p.X):=rfl
 rw [e1,e2,← k,prod_le,prod_le]
 unfold Bx
 rfl
theorem end_of {a b p d:Point} (h:crs a b p=0) (hd:crs a b d≠0) (hz:crs p d a=0):p=a:=by
 apply Classical.byContradiction
 intro hne
 have hne':=pt_ne hne
 apply hd
 unfold crs at h hz ⊢
 have k:=par (ux:=a.X-p.X) (uy:=a.Y-p.Y) (vx:=d.X-p.X) (vy:=d.Y-p.Y) (wx:=b.X-p.X) (wy:=b.Y-p.Y) (by grind) (by grind) (by omega)
 grind
theorem not_both {a b c d:Point} (hcd:c≠d) (h:crs a b c≠0∨crs a b d≠0):crs c d a≠0∨crs c d b≠0:=by
 apply Classical.byContradiction
 intro hn
 have h1:crs c d a=0:=by omega
 have h2:crs c d b=0:=by omega
 have hd:=crs_diff a b c d
 have hne:=pt_ne hcd
 have hz:crs a b c=0:=by
  unfold crs at h1 h2 ⊢
  have k:=par (ux:=d.X-c.X) (uy:=d.Y-c.Y) (vx:=a.X-c.X) (vy:=a.Y-c.Y) (wx:=b.X-c.X) (wy:=b.Y-c.Y) (by grind) (by grind) (by omega)
  grind
 omega
theorem cross_point (a b c d:Point):crs a b c*d.X-crs a b d*c.X=crs c d b*a.X-crs c d a*b.X∧crs a b c*d.Y-crs a b d*c.Y=crs c d b*a.Y-crs c d a*b.Y:=by
 unfold crs;constructor<;>grind
def Le (p q:Point):Prop:=p.X<q.X∨p.X=q.X∧p.Y≤q.Y
def Lt (p q:Point):Prop:=p.X<q.X∨p.X=q.X∧p.Y<q.Y
theorem le_iff {p q:Point}:Le p q↔Lt p q∨p=q:=by
 unfold Le Lt
 constructor
 ·intro h
  by_cases e:p=q
  ·exact .inr e
  ·have:=pt_ne e;omega
 ·rintro (h | rfl)<;>omega
theorem line_between {a b p:Point} (hab:Lt a b) (h:crs a b p=0):Bx ⟨a,b⟩ p↔Le a p∧Le p b:=by
 have h':(b.X-a.X)*(p.Y-a.Y)=(b.Y-a.Y)*(p.X-a.X):=by unfold crs at h;omega
 have h2:(b.X-a.X)*(b.Y-p.Y)=(b.Y-a.Y)*(b.X-p.X):=by grind
 unfold Bx Le
 unfold Lt at hab
 show (a.X≤p.X∧p.X≤b.X∨b.X≤p.X∧p.X≤a.X)∧(a.Y≤p.Y∧p.Y≤b.Y∨b.Y≤p.Y∧p.Y≤a.Y)↔_
 by_cases hx:a.X=b.X
 ·have hpx:p.X=a.X:=by
   have e0:(b.X-a.X)=0:=by omega
   rw [e0,Int.zero_mul] at h'
   rcases Int.mul_eq_zero.1 h'.symm with k | k<;>omega
  omega
 ·have hlt:0<b.X-a.X:=by omega
  have ey:p.X=a.X→p.Y=a.Y:=by
   intro e
   have e0:p.X-a.X=0:=by omega
   rw [e0,Int.mul_zero] at h'
   rcases Int.mul_eq_zero.1 h' with k | k<;>omega
  have ey2:p.X=b.X→p.Y=b.Y:=by
   intro e
   have e0:b.X-p.X=0:=by omega
   rw [e0,Int.mul_zero] at h2
   rcases Int.mul_eq_zero.1 h2 with k | k<;>omega
  have hy:a.X≤p.X→p.X≤b.X→(a.Y≤p.Y∧p.Y≤b.Y∨b.Y≤p.Y∧p.Y≤a.Y):=by
   intro g1 g2
   rcases Int.le_total a.Y b.Y with k | k
   ·left
    have n1:0≤(b.X-a.X)*(p.Y-a.Y):=by rw [h'];exact Int.mul_nonneg (by omega) (by omega)
    have n2:0≤(b.X-a.X)*(b.Y-p.Y):=by rw [h2];exact Int.mul_nonneg (by omega) (by omega)
    have m1:=Int.nonneg_of_mul_nonneg_right n1 hlt
    have m2:=Int.nonneg_of_mul_nonneg_right n2 hlt
    omega
   ·right
    have n1:(b.X-a.X)*(p.Y-a.Y)≤0:=by rw [h'];exact Int.mul_nonpos_of_nonpos_of_nonneg (by omega) (by omega)
    have n2:(b.X-a.X)*(b.Y-p.Y)≤0:=by rw [h2];exact Int.mul_nonpos_of_nonpos_of_nonneg (by omega) (by omega)
    have m1:p.Y-a.Y≤0:=Int.not_lt.1 fun hh=>by have:=Int.mul_pos hlt hh;omega
    have m2:b.Y-p.Y≤0:=Int.not_lt.1 fun hh=>by have:=Int.mul_pos hlt hh;omega
    omega
  constructor
  ·rintro ⟨g1,_⟩
   refine ⟨?_,?_⟩
   ·by_cases e:p.X=a.X
    ·have:=ey e;omega
    ·omega
   ·by_cases e:p.X=b.X
    ·have:=ey2 e;omega
    ·omega
  ·intro g
   exact ⟨by omega,hy (by omega) (by omega)⟩
def Near (p:Point):Prop:=-2097152≤p.X∧p.X≤2097152∧-2097152≤p.Y∧p.Y≤2097152
def NearS (s:Segment):Prop:=Near s.A∧Near s.B
def IsEnd (s:Segment) (p:Point):Prop:=p=s.A∨p=s.B
def Com (s t:Segment) (p:Point):Prop:=(IsEnd s p∨IsEnd t p)∧On s p∧On t p
def SameEnds (s t:Segment):Prop:=s.A=t.A∧s.B=t.B∨s.A=t.B∧s.B=t.A
def Proper (s t:Segment):Prop:=crs s.A s.B t.A*crs s.A s.B t.B<0∧crs t.A t.B s.A*crs t.A t.B s.B<0
inductive MeetsR (s t:Segment):Int→Prop
 | far (h:¬ (NearS s∧NearS t)):MeetsR s t 0
 | same (n:NearS s∧NearS t) (h:SameEnds s t):MeetsR s t 4
 | over (n:NearS s∧NearS t) (h:¬ SameEnds s t) (p q:Point) (hne:p≠q) (hp:Com s t p) (hq:Com s t q):MeetsR s t 5
 | end_ (n:NearS s∧NearS t) (h:¬ SameEnds s t) (p:Point) (hp:Com s t p) (u:∀ q,Com s t q→q=p) (e:IsEnd s p∧IsEnd t p):MeetsR s t 1
 | touch (n:NearS s∧NearS t) (h:¬ SameEnds s t) (p:Point) (hp:Com s t p) (u:∀ q,Com s t q→q=p) (e:¬ (IsEnd s p∧IsEnd t p)):MeetsR s t 2
 | cross (n:NearS s∧NearS t) (h:¬ SameEnds s t) (no:∀ p,¬ Com s t p) (c:Proper s t):MeetsR s t 3
 | none (n:NearS s∧NearS t) (h:¬ SameEnds s t) (no:∀ p,¬ Com s t p) (c:¬ Proper s t):MeetsR s t 0
theorem MeetsR.unique {s t:Segment} {m n:Int} (h:MeetsR s t m) (k:MeetsR s t n):m=n:=by
 cases h with
 | far h=>
  cases k with
  | far=>rfl
  | none n h' no c=>rfl
  | same n | over n | end_ n | touch n | cross n=>exact absurd n h
 | same n h=>cases k with
  | same=>rfl
  | far h'=>exact absurd n h'
  | over _ h' | end_ _ h' | touch _ h' | cross _ h' | none _ h'=>exact absurd h h'
 | over n h p q hne hp hq=>cases k with
  | over=>rfl
  | far h'=>exact absurd n h'
  | same _ h'=>exact absurd h' h
  | end_ _ _ r _ u | touch _ _ r _ u=>exact absurd ((u p hp).trans (u q hq).symm) hne
  | cross _ _ no | none _ _ no=>exact absurd hp (no p)
 | end_ n h p hp u e=>cases k with
  | end_=>rfl
  | far h'=>exact absurd n h'
  | same _ h'=>exact absurd h' h
  | over _ _ q r hne hq hr=>exact absurd ((u q hq).trans (u r hr).symm) hne
  | touch _ _ r hr _ e'=>rw [u r hr] at e';exact absurd e e'
  | cross _ _ no | none _ _ no=>exact absurd hp (no p)
 | touch n h p hp u e=>cases k with
  | touch=>rfl
  | far h'=>exact absurd n h'
  | same _ h'=>exact absurd h' h
  | over _ _ q r hne hq hr=>exact absurd ((u q hq).trans (u r hr).symm) hne
  | end_ _ _ r hr _ e'=>rw [u r hr] at e';exact absurd e' e
  | cross _ _ no | none _ _ no=>exact absurd hp (no p)
 | cross n h no c=>cases k with
  | cross=>rfl
  | far h'=>exact absurd n h'
  | same _ h'=>exact absurd h' h
  | over _ _ q r hne hq hr=>exact absurd hq (no q)
  | end_ _ _ r hr | touch _ _ r hr=>exact absurd hr (no r)
  | none _ _ _ c'=>exact absurd c c'
 | none n h no c=>cases k with
  | none=>rfl
  | far h'=>rfl
  | same _ h'=>exact absurd h' h
  | over _ _ q r hne hq hr=>exact absurd hq (no q)
  | end_ _ _ r hr | touch _ _ r hr=>exact absurd hr (no r)
  | cross _ _ _ c'=>exact absurd c' c
theorem Com.symm {s t:Segment} {p:Point} (h:Com s t p):Com t s p:=⟨h.1.symm,h.2.2,h.2.1⟩
theorem SameEnds.symm {s t:Segment} (h:SameEnds s t):SameEnds t s:=by
 rcases h with ⟨a,b⟩ | ⟨a,b⟩
 ·exact .inl ⟨a.symm,b.symm⟩
 ·exact .inr ⟨b.symm,a.symm⟩
theorem MeetsR.symm {s t:Segment} {n:Int} (h:MeetsR s t n):MeetsR t s n:=by
 cases h with
 | far h=>exact .far (fun k=>h k.symm)
 | same n h=>exact .same n.symm h.symm
 | over n h p q hne hp hq=>exact .over n.symm (fun k=>h k.symm) p q hne hp.symm hq.symm
 | end_ n h p hp u e=>exact .end_ n.symm (fun k=>h k.symm) p hp.symm (fun q hq=>u q hq.symm) e.symm
 | touch n h p hp u e=>exact .touch n.symm (fun k=>h k.symm) p hp.symm (fun q hq=>u q hq.symm) (fun k=>e k.symm)
 | cross n h no c=>exact .cross n.symm (fun k=>h k.symm) (fun p hp=>no p hp.symm) c.symm
 | none n h no c=>exact .none n.symm (fun k=>h k.symm) (fun p hp=>no p hp.symm) (fun k=>c k.symm)
end Go.Gp.Gb.Geo
end
section
set_option linter.unusedVariables false
set_option linter.unusedSimpArgs false
set_option maxRecDepth 100000
namespace Go.Gp.Gb
open Go.Proofs
def ref03_Is.F (p1:Point):W Bool:=W.ret ((((decide ((-2097152:Int)≤p1.X))&&(decide (p1.X≤(2097152:Int))))&&(decide ((-2097152:Int)≤p1.Y)))&&(decide (p1.Y≤(2097152:Int))))
def zz.F (s1:Segment):W Bool:=W.bind (ref03_Is.F s1.A) (fun r1=>W.bind (W.ite r1 (ref03_Is.F s1.B) (W.ret false)) (fun r2=>W.ret (r1&&r2)))
def ref03_cross.F (a1:Point) (b1:Point) (c1:Point):W Int:=W.ret (w64 ((w64 ((w64 (b1.X-a1.X))*(w64 (c1.Y-a1.Y))))-(w64 ((w64 (b1.Y-a1.Y))*(w64 (c1.X-a1.X))))))
def ref03_On.F (s1:Segment) (p1:Point):W Bool:=W.bind (zz.F s1) (fun r1=>W.bind (W.ite (!(!r1)) (ref03_Is.F p1) (W.ret false)) (fun r2=>W.ite ((!r1)||(!r2)) (W.ret false) (W.bind (W.ite ((((decide ((if s1.B.X<s1.A.X then s1.B.X else s1.A.X)≤p1.X))&&(decide (p1.X≤(if s1.A.X<s1.B.X then s1.B.X else s1.A.X))))&&(decide ((if s1.B.Y<s1.A.Y then s1.B.Y else s1.A.Y)≤p1.Y)))&&(decide (p1.Y≤(if s1.A.Y<s1.B.Y then s1.B.Y else s1.A.Y)))) (ref03_cross.F s1.A s1.B p1) (W.ret (0:Int))) (fun r3=>W.ret (((((decide ((if s1.B.X<s1.A.X then s1.B.X else s1.A.X)≤p1.X))&&(decide (p1.X≤(if s1.A.X<s1.B.X then s1.B.X else s1.A.X))))&&(decide ((if s1.B.Y<s1.A.Y then s1.B.Y else s1.A.Y)≤p1.Y)))&&(decide (p1.Y≤(if s1.A.Y<s1.B.Y then s1.B.Y else s1.A.Y))))&&(r3==(0:Int)))))))
def ref03_sign.F (n1:Int):W Int:=W.ite (decide (n1<(0:Int))) (W.ret (-1:Int)) (W.ite (decide ((0:Int)<n1)) (W.ret (1:Int)) (W.ret (0:Int)))
def jb5.F (a1:Point) (b1:Point) (c1:Point):W Int:=W.bind (ref03_Is.F a1) (fun r1=>W.bind (W.ite (!(!r1)) (ref03_Is.F b1) (W.ret false)) (fun r2=>W.bind (W.ite (!((!r1)||(!r2))) (ref03_Is.F c1) (W.ret false)) (fun r3=>W.ite (((!r1)||(!r2))||(!r3)) (W.ret (0:Int)) (W.bind (ref03_cross.F a1 b1 c1) (fun r4=>W.bind (ref03_sign.F r4) (fun r5=>W.ret r5))))))
def ref03_end.F (s1:Segment) (p1:Point):W Bool:=W.ret ((Vg p1 s1.A)||(Vg p1 s1.B))
def wc.c1 (s1:Segment) (t1:Segment) (x6:(List Point)):W Int:=W.ite (decide ((1:Int)<(x6.length:Int))) (W.ret (5:Int)) (W.ite ((x6.length:Int)==(1:Int)) (W.req (0≤(0:Int)∧(0:Int)<(x6.length:Int)) (W.bind (ref03_end.F s1 (rd zPoint x6 (0:Int))) (fun r7=>W.req (r7=true→0≤(0:Int)∧(0:Int)<(x6.length:Int)) (W.bind (W.ite r7 (ref03_end.F t1 (rd zPoint x6 (0:Int))) (W.ret false)) (fun r8=>W.ite (r7&&r8) (W.ret (1:Int)) (W.ret (2:Int))))))) (W.bind (jb5.F s1.A s1.B t1.A) (fun r9=>W.bind (jb5.F s1.A s1.B t1.B) (fun r10=>W.bind (W.ite (decide ((w64 (r9*r10))<(0:Int))) (jb5.F t1.A t1.B s1.A) (W.ret (0:Int))) (fun r11=>W.bind (W.ite (decide ((w64 (r9*r10))<(0:Int))) (jb5.F t1.A t1.B s1.B) (W.ret (0:Int))) (fun r12=>W.ite ((decide ((w64 (r9*r10))<(0:Int)))&&(decide ((w64 (r11*r12))<(0:Int)))) (W.ret (3:Int)) (W.ret (0:Int))))))))
def wc.c2 (i6:Int) (A1:(List Point)→Int→W Int) (x12:(List Point)):W Int:=A1 x12 (w64 (i6+(1:Int)))
def wc.c3 (s1:Segment) (t1:Segment) (x11:(List Point)) (i6:Int) (K2:(List Point)→W Int) (twice24:Bool):W Int:=W.req ((!twice24)=true→0≤i6∧i6<(([s1.A,s1.B,t1.A,t1.B]:List Point).length:Int)) (W.bind (W.ite (!twice24) (ref03_On.F s1 (rd zPoint ([s1.A,s1.B,t1.A,t1.B]:List Point) i6)) (W.ret false)) (fun r19=>W.req (((!twice24)&&r19)=true→0≤i6∧i6<(([s1.A,s1.B,t1.A,t1.B]:List Point).length:Int)) (W.bind (W.ite ((!twice24)&&r19) (ref03_On.F t1 (rd zPoint ([s1.A,s1.B,t1.A,t1.B]:List Point) i6)) (W.ret false)) (fun r20=>W.ite (((!twice24)&&r19)&&r20) (W.req (0≤i6∧i6<(([s1.A,s1.B,t1.A,t1.B]:List Point).length:Int)) (W.req (0≤i6∧i6<(([s1.A,s1.B,t1.A,t1.B]:List Point).length:Int)) (W.req ((x11.length+([(rd zPoint ([s1.A,s1.B,t1.A,t1.B]:List Point) i6)]:List Point).length)*16≤140737488355328∧x11.length+([(rd zPoint ([s1.A,s1.B,t1.A,t1.B]:List Point) i6)]:List Point).length≤140737488355328) (K2 (x11++([(rd zPoint ([s1.A,s1.B,t1.A,t1.B]:List Point) i6)]:List Point)))))) (K2 x11)))))
def wc.l2 (s1:Segment) (t1:Segment) (x11:(List Point)) (i6:Int) (K3:Bool→W Int) (A2:Bool→Int→W Int) (twice27:Bool) (k21:Int):W Int:=W.ite (decide (k21<(x11.length:Int))) (W.req ((!twice27)=true→0≤k21∧k21<(x11.length:Int)) (W.req ((!twice27)=true→0≤i6∧i6<(([s1.A,s1.B,t1.A,t1.B]:List Point).length:Int)) (A2 (twice27||(Vg (rd zPoint x11 k21) (rd zPoint ([s1.A,s1.B,t1.A,t1.B]:List Point) i6))) (w64 (k21+(1:Int)))))) (K3 twice27)
def wc.l1 (s1:Segment) (t1:Segment) (K1:(List Point)→W Int) (A1:(List Point)→Int→W Int) (x11:(List Point)) (i6:Int):W Int:=W.ite (decide (i6<(4:Int))) (W.ex fun n=>W.iter2 (wc.l2 s1 t1 x11 i6 (wc.c3 s1 t1 x11 i6 (wc.c2 i6 A1))) n false (0:Int)) (K1 x11)
def wc.F (s1:Segment) (t1:Segment):W Int:=W.bind (zz.F s1) (fun r1=>W.bind (W.ite (!(!r1)) (zz.F t1) (W.ret false)) (fun r2=>W.ite ((!r1)||(!r2)) (W.ret (0:Int)) (W.ite ((ja2 s1 t1)||((Vg s1.A t1.B)&&(Vg s1.B t1.A))) (W.ret (4:Int)) (W.ex fun n=>W.iter2 (wc.l1 s1 t1 (wc.c1 s1 t1)) n ([]:List Point) (0:Int)))))
end Go.Gp.Gb
end
section
set_option linter.unusedVariables false
set_option linter.unusedSimpArgs false
set_option maxRecDepth 10000
namespace Go.Gp.Gb
open Geo
theorem mul_bound {x y:Int} (hx:-4194304≤x∧x≤4194304) (hy:-4194304≤y∧y≤4194304):-17592186044416≤x*y∧x*y≤17592186044416:=by
 have h1:(x*y).natAbs≤4194304*4194304:=by
  rw [Int.natAbs_mul]
  exact Nat.mul_le_mul (by omega) (by omega)
 omega
def sgn (n:Int):Int:=if n<0 then -1 else if 0<n then 1 else 0
theorem crs_w {a b c:Point} (ha:Near a) (hb:Near b) (hc:Near c):w64 ((w64 ((w64 (b.X-a.X))*(w64 (c.Y-a.Y))))-(w64 ((w64 (b.Y-a.Y))*(w64 (c.X-a.X)))))=crs a b c:=by
 unfold Near at *
 rw [w64_id (x:=b.X-a.X) (by omega) (by omega),w64_id (x:=c.Y-a.Y) (by omega) (by omega),w64_id (x:=b.Y-a.Y) (by omega) (by omega),w64_id (x:=c.X-a.X) (by omega) (by omega)]
 have h1:=mul_bound (x:=b.X-a.X) (y:=c.Y-a.Y) (by omega) (by omega)
 have h2:=mul_bound (x:=b.Y-a.Y) (y:=c.X-a.X) (by omega) (by omega)
 rw [w64_id (x:=(b.X-a.X)*(c.Y-a.Y)) (by omega) (by omega),w64_id (x:=(b.Y-a.Y)*(c.X-a.X)) (by omega) (by omega)]
 exact w64_id (by omega) (by omega)
theorem eq_pt {p q:Point}:Vg p q=true↔p=q:=by
 simp only [Vg,Bool.and_eq_true,beq_iff_eq]
 exact ⟨fun h=>pt_ext h.1 h.2,fun h=>by rw [h];exact ⟨rfl,rfl⟩⟩
theorem eq_pt_f {p q:Point}:Vg p q=false↔p≠q:=by rw [← Bool.not_eq_true,eq_pt]
theorem eq_sg {s t:Segment}:ja2 s t=true↔s.A=t.A∧s.B=t.B:=by
 simp only [ja2,Bool.and_eq_true,eq_pt]
theorem ref03_Is_b {p:Point} {Q:Bool→Prop} (h:∀ b,(b=true↔Near p)→Q b):ref03_Is.F p Q:=by
 refine h _ ?_
 simp only [Bool.and_eq_true,decide_eq_true_eq]
 unfold Near;omega
theorem ref03_Segment_b {s:Segment} {Q:Bool→Prop} (h:∀ b,(b=true↔NearS s)→Q b):zz.F s Q:=by
 refine W.bind_i (ref03_Is_b fun b1 h1=>W.bind_i ?_)
 cases b1 with
 | false=>exact h _ (iff_of_false (by simp) fun hn=>by have:=h1.2 hn.1;cases this)
 | true=>exact ref03_Is_b fun b2 h2=>h _ (by simp only [Bool.true_and,h2];exact ⟨fun k=>⟨h1.1 rfl,k⟩,fun k=>k.2⟩)
theorem sgn_b {n:Int} {Q:Int→Prop} (h:Q (sgn n)):ref03_sign.F n Q:=by
 unfold sgn at h
 refine W.dec_i (fun h1=>?_) (fun h1=>W.dec_i (fun h2=>?_) (fun h2=>?_))
 ·rwa [if_pos h1] at h
 ·rwa [if_neg h1,if_pos h2] at h
 ·rwa [if_neg h1,if_neg h2] at h
theorem ref03_cross_b {a b c:Point} (ha:Near a) (hb:Near b) (hc:Near c) {Q:Int→Prop} (h:Q (crs a b c)):ref03_cross.F a b c Q:=by
 show Q _
 rw [crs_w ha hb hc]
 exact h
theorem ref03_Orient_b {a b c:Point} (ha:Near a) (hb:Near b) (hc:Near c) {Q:Int→Prop} (h:Q (sgn (crs a b c))):jb5.F a b c Q:=by
 refine W.bind_i (ref03_Is_b fun b1 h1=>W.bind_i ?_)
 obtain rfl:b1=true:=h1.2 ha
 refine W.ite_i (fun _=>ref03_Is_b fun b2 h2=>W.bind_i ?_) (fun hh=>by cases hh)
 obtain rfl:b2=true:=h2.2 hb
 refine W.ite_i (fun _=>ref03_Is_b fun b3 h3=>?_) (fun hh=>by cases hh)
 obtain rfl:b3=true:=h3.2 hc
 exact W.ite_i (fun hh=>by cases hh) (fun _=>W.bind_i (ref03_cross_b ha hb hc (W.bind_i (sgn_b h))))
theorem ref03_On_b {s:Segment} {p:Point} (hs:NearS s) (hp:Near p) {Q:Bool→Prop} (h:∀ b,(b=true↔On s p)→Q b):ref03_On.F s p Q:=by
 refine W.bind_i (ref03_Segment_b fun b1 h1=>W.bind_i ?_)
 obtain rfl:b1=true:=h1.2 hs
 refine W.ite_i (fun _=>ref03_Is_b fun b2 h2=>?_) (fun hh=>by cases hh)
 obtain rfl:b2=true:=h2.2 hp
 refine W.ite_i (fun hc=>by cases hc) (fun _=>W.bind_i ?_)
 have e:((((decide ((if s.B.X<s.A.X then s.B.X else s.A.X)≤p.X))&&(decide (p.X≤(if s.A.X<s.B.X then s.B.X else s.A.X))))&&(decide ((if s.B.Y<s.A.Y then s.B.Y else s.A.Y)≤p.Y)))&&(decide (p.Y≤(if s.A.Y<s.B.Y then s.B.Y else s.A.Y))))=true↔Bx s p:=by
  simp only [Bool.and_eq_true,decide_eq_true_eq]
  unfold Bx
  split<;>split<;>split<;>split<;>omega
 refine W.ite_i (fun hb=>ref03_cross_b hs.1 hs.2 hp (h _ ?_)) (fun hb=>h _ ?_)
 ·rw [hb]
  simp only [Bool.true_and,beq_iff_eq]
  exact ⟨fun k=>⟨e.1 hb,k⟩,fun k=>k.2⟩
 ·rw [hb]
  simp only [Bool.false_and,Bool.false_eq_true,false_iff]
  intro k
  rw [e.2 k.1] at hb;cases hb
structure Coms (s t:Segment) (l:List Point) (n:Nat):Prop where
 nodup:l.Nodup
 mem:∀ p,p∈l↔p∈([s.A,s.B,t.A,t.B]:List Point).take n∧On s p∧On t p
theorem ref03_l2_b {s t:Segment} {x:List Point} {i:Nat} (hi:i<4) (hx:x.length≤4) {K:Bool→W Int} {Q:Int→Prop} (h:∀ b,(b=true↔rd zPoint ([s.A,s.B,t.A,t.B]:List Point) (i:Int)∈x)→K b Q):(W.ex fun n=>W.iter2 (wc.l2 s t x (i:Int) K) n false (0:Int)) Q:=by
 refine W.up2 x.length (fun j b=>b=true↔rd zPoint ([s.A,s.B,t.A,t.B]:List Point) (i:Int)∈x.take j) (by simp) (fun A j b hj hI hK=>?_)
 refine W.dec_i (fun hlt=>?_) (fun hge=>?_)
 ·have hj2:j<x.length:=by omega
  refine W.req_i (fun _=>⟨by omega,hlt⟩) (W.req_i (fun _=>⟨by omega,by simp only [List.length_cons,List.length_nil];omega⟩) ?_)
  rw [w64_succ (by omega)]
  refine hK hj2 _ ?_
  rw [Bool.or_eq_true,eq_pt,hI,rd_nat hj2,List.take_add_one,List.getElem?_eq_getElem hj2]
  simp only [Option.toList_some,List.mem_append,List.mem_singleton]
  exact ⟨fun k=>k.elim .inl (fun k=>.inr k.symm),fun k=>k.elim .inl (fun k=>.inr k.symm)⟩
 ·have:j=x.length:=by omega
  subst this
  refine h b ?_
  rw [hI,List.take_length]
theorem ends_near {s t:Segment} (hs:NearS s) (ht:NearS t) {i:Nat} (hi:i<4):Near (rd zPoint ([s.A,s.B,t.A,t.B]:List Point) (i:Int)):=by
 have:i=0∨i=1∨i=2∨i=3:=by omega
 rcases this with rfl | rfl | rfl | rfl
 ·exact hs.1
 ·exact hs.2
 ·exact ht.1
 ·exact ht.2
theorem ref03_end_b {s:Segment} {p:Point} {Q:Bool→Prop} (h:∀ b,(b=true↔IsEnd s p)→Q b):ref03_end.F s p Q:=h _ (by rw [Bool.or_eq_true,eq_pt,eq_pt];rfl)
theorem sgn_w {m n:Int}:w64 (sgn m*sgn n)=sgn m*sgn n∧((sgn m*sgn n<0)↔m*n<0)∧((0<sgn m*sgn n)↔0<m*n)∧((sgn m*sgn n=0)↔m*n=0):=by
 have tri:∀ x:Int,x<0∧sgn x=-1∨x=0∧sgn x=0∨0<x∧sgn x=1:=by
  intro x;unfold sgn
  rcases Int.lt_trichotomy x 0 with h | h | h
  ·left;exact ⟨h,if_pos h⟩
  ·right;left;subst h;exact ⟨rfl,rfl⟩
  ·right;right;exact ⟨h,by rw [if_neg (by omega),if_pos h]⟩
 rcases tri m with ⟨h,e⟩ | ⟨h,e⟩ | ⟨h,e⟩<;>rcases tri n with ⟨k,e2⟩ | ⟨k,e2⟩ | ⟨k,e2⟩<;>rw [e,e2]
 ·have:=Int.mul_pos_of_neg_of_neg h k;exact ⟨rfl,by omega,by omega,by omega⟩
 ·rw [k];exact ⟨rfl,by omega,by omega,by omega⟩
 ·have:=Int.mul_neg_of_neg_of_pos h k;exact ⟨rfl,by omega,by omega,by omega⟩
 ·rw [h];exact ⟨rfl,by omega,by omega,by omega⟩
 ·rw [h];exact ⟨rfl,by omega,by omega,by omega⟩
 ·rw [h];exact ⟨rfl,by omega,by omega,by omega⟩
 ·have:=Int.mul_neg_of_pos_of_neg h k;exact ⟨rfl,by omega,by omega,by omega⟩
 ·rw [k];exact ⟨rfl,by omega,by omega,by omega⟩
 ·have:=Int.mul_pos h k;exact ⟨rfl,by omega,by omega,by omega⟩
theorem Coms.com {s t:Segment} {l:List Point} (h:Coms s t l 4) (p:Point):p∈l↔Com s t p:=by
 rw [h.mem]
 unfold Com IsEnd
 simp only [List.take_succ_cons,List.take_zero,List.mem_cons,List.not_mem_nil,or_false]
 constructor
 ·rintro ⟨h1,h2⟩;exact ⟨by rcases h1 with h | h | h | h<;>simp [h],h2⟩
 ·rintro ⟨h1,h2⟩;exact ⟨by rcases h1 with (h | h) | (h | h)<;>simp [h],h2⟩
theorem Coms.len {s t:Segment} {l:List Point} {n:Nat} (h:Coms s t l n) (hn:n≤4):l.length≤n:=by
 have:=List.Nodup.length_le_of_subset h.nodup (l₂:=([s.A,s.B,t.A,t.B]:List Point).take n) (fun p hp=>((h.mem p).1 hp).1)
 simp only [List.length_take] at this
 omega
theorem ref03_c1_b {s t:Segment} {l:List Point} (hn:NearS s∧NearS t) (hd:¬ SameEnds s t) (h:Coms s t l 4) {Q:Int→Prop} (hq:∀ n,MeetsR s t n→Q n):wc.c1 s t l Q:=by
 refine W.dec_i (fun h2=>?_) (fun h2=>W.ite_i (fun h1=>?_) (fun h1=>?_))
 ·match l,h,h2 with
  | a::b::l',h,_=>
   have:=h.nodup
   refine hq 5 (.over hn hd a b ?_ ((h.com a).1 (by simp)) ((h.com b).1 (by simp)))
   intro e;subst e;simp at this
 ·rw [beq_iff_eq] at h1
  match l,h,h1 with
  | [p],h,_=>
   have u:∀ q,Com s t q→q=p:=fun q hq=>by simpa using (h.com q).2 hq
   have hp:=(h.com p).1 (by simp)
   refine W.req_i ⟨Int.le_refl _,Int.one_pos⟩ (W.bind_i (ref03_end_b fun b1 h1=>W.req_i (fun _=>⟨Int.le_refl _,Int.one_pos⟩) (W.bind_i ?_)))
   change b1=true↔IsEnd s p at h1
   cases b1 with
   | false=>exact hq 2 (.touch hn hd p hp u fun k=>by have:=h1.2 k.1;cases this)
   | true=>
    refine ref03_end_b fun b2 h2=>?_
    change b2=true↔IsEnd t p at h2
    cases b2 with
    | false=>exact hq 2 (.touch hn hd p hp u fun k=>by have:=h2.2 k.2;cases this)
    | true=>exact hq 1 (.end_ hn hd p hp u ⟨h1.1 rfl,h2.1 rfl⟩)
 ·have e:l=[]:=by
   rw [beq_eq_false_iff_ne] at h1
   cases l with
   | nil=>rfl
   | cons a l=>cases l with
    | nil=>exact absurd rfl h1
    | cons b l=>exact absurd (by simp only [List.length_cons];omega) h2
  subst e
  have no:∀ p,¬ Com s t p:=fun p hp=>by have:=(h.com p).2 hp;cases this
  refine W.bind_i (ref03_Orient_b hn.1.1 hn.1.2 hn.2.1 (W.bind_i (ref03_Orient_b hn.1.1 hn.1.2 hn.2.2 (W.bind_i ?_))))
  rw [sgn_w.1]
  by_cases hc:crs s.A s.B t.A*crs s.A s.B t.B<0
  ·rw [decide_eq_true (sgn_w.2.1.2 hc)]
   refine ref03_Orient_b hn.2.1 hn.2.2 hn.1.1 (W.bind_i (ref03_Orient_b hn.2.1 hn.2.2 hn.1.2 ?_))
   rw [sgn_w.1,Bool.true_and]
   refine W.dec_i (fun hc2=>hq 3 (.cross hn hd no ⟨hc,sgn_w.2.1.1 hc2⟩)) (fun hc2=>hq 0 (.none hn hd no fun k=>hc2 (sgn_w.2.1.2 k.2)))
  ·rw [decide_eq_false (fun k=>hc (sgn_w.2.1.1 k))]
   refine W.bind_i ?_
   exact hq 0 (.none hn hd no fun k=>hc k.1)
theorem ref03_Meets_b {s t:Segment} {Q:Int→Prop} (hq:∀ n,MeetsR s t n→Q n):wc.F s t Q:=by
 refine W.bind_i (ref03_Segment_b fun b1 h1=>W.bind_i ?_)
 cases b1 with
 | false=>exact hq 0 (.far fun k=>by have:=h1.2 k.1;cases this)
 | true=>
  refine ref03_Segment_b fun b2 h2=>?_
  cases b2 with
  | false=>exact hq 0 (.far fun k=>by have:=h2.2 k.2;cases this)
  | true=>
   have hn:NearS s∧NearS t:=⟨h1.1 rfl,h2.1 rfl⟩
   have e:(ja2 s t||(Vg s.A t.B&&Vg s.B t.A))=true↔SameEnds s t:=by
    rw [Bool.or_eq_true,Bool.and_eq_true,eq_sg,eq_pt,eq_pt];rfl
   refine W.ite_i (fun h=>by cases h) (fun _=>W.ite_i (fun h=>hq 4 (.same hn (e.1 h))) (fun h=>?_))
   have hd:¬ SameEnds s t:=fun k=>by rw [e.2 k] at h;cases h
   refine W.up2 4 (fun i l=>Coms s t l i) ⟨List.nodup_nil,fun p=>by simp⟩ (fun K i l hi hI hk=>?_)
   have hl:=hI.len hi
   refine W.dec_i (fun hlt=>?_) (fun hge=>?_)
   ·have hi4:i<4:=by omega
    refine ref03_l2_b hi4 (by omega) fun b hb=>?_
    have hne:=ends_near hn.1 hn.2 hi4
    have hix:0≤(i:Int)∧(i:Int)<(([s.A,s.B,t.A,t.B]:List Point).length:Int):=⟨by omega,by simp only [List.length_cons,List.length_nil];omega⟩
    have htk:([s.A,s.B,t.A,t.B]:List Point).take (i+1)=([s.A,s.B,t.A,t.B]:List Point).take i++[rd zPoint ([s.A,s.B,t.A,t.B]:List Point) (i:Int)]:=by
     have:i=0∨i=1∨i=2∨i=3:=by omega
     rcases this with rfl | rfl | rfl | rfl<;>rfl
    have next:∀ l',Coms s t l' (i+1)→K l' (w64 ((i:Int)+1)) Q:=fun l' h'=>by
     rw [w64_succ (by omega)];exact hk hi4 l' h'
    generalize hp:rd zPoint ([s.A,s.B,t.A,t.B]:List Point) (i:Int)=p at *
    unfold wc.c3
    rw [hp]
    refine W.req_i (fun _=>hix) (W.bind_i ?_)
    cases b with
    | true=>
     refine W.req_i (fun _=>hix) (W.bind_i ?_)
     refine next l ⟨hI.nodup,fun q=>?_⟩
     rw [hI.mem,htk,List.mem_append,List.mem_singleton]
     constructor
     ·exact fun k=>⟨.inl k.1,k.2⟩
     ·rintro ⟨k | rfl,k2⟩
      ·exact ⟨k,k2⟩
      ·exact (hI.mem q).1 (hb.1 rfl)
    | false=>
     have hnew:p∉l:=fun k=>by have:=hb.2 k;cases this
     refine ref03_On_b hn.1 hne fun b1 k1=>W.req_i (fun _=>hix) (W.bind_i ?_)
     have skip:¬ (On s p∧On t p)→Coms s t l (i+1):=fun hno=>⟨hI.nodup,fun q=>by
      rw [hI.mem,htk,List.mem_append,List.mem_singleton]
      constructor
      ·exact fun k=>⟨.inl k.1,k.2⟩
      ·rintro ⟨k | rfl,k2⟩
       ·exact ⟨k,k2⟩
       ·exact absurd k2 hno⟩
     cases b1 with
     | false=>exact next l (skip fun k=>by have:=k1.2 k.1;cases this)
     | true=>
      refine ref03_On_b hn.2 hne fun b2 k2=>?_
      cases b2 with
      | false=>exact next l (skip fun k=>by have:=k2.2 k.2;cases this)
      | true=>
       refine W.req_i hix (W.req_i hix (W.req_i ?_ ?_))
       ·simp only [List.length_cons,List.length_nil];omega
       ·refine next _ ⟨?_,fun q=>?_⟩
        ·rw [List.nodup_append]
         exact ⟨hI.nodup,by simp,fun a ha b hb e=>by simp at hb;subst hb;subst e;exact hnew ha⟩
        ·rw [List.mem_append,List.mem_singleton,hI.mem,htk,List.mem_append,List.mem_singleton]
         constructor
         ·rintro (k | rfl)
          ·exact ⟨.inl k.1,k.2⟩
          ·exact ⟨.inr rfl,k1.1 rfl,k2.1 rfl⟩
         ·rintro ⟨k | k,k2⟩
          ·exact .inl ⟨k,k2⟩
          ·exact .inr k
   ·have:i=4:=by omega
    subst this
    exact ref03_c1_b hn hd hI hq
theorem near_b {l:List Point} (hl:l.length<1000) {Q:Bool→Prop} (h:∀ b,(b=true↔∀ p∈l,Near p)→Q b):we.F l Q:=by
 refine W.up1 l.length (fun i=>∀ p∈l.take i,Near p) (by simp) (fun K i hi hI hk=>?_)
 refine W.dec_i (fun hlt=>?_) (fun hge=>?_)
 ·have hi2:i<l.length:=by omega
  refine W.req_i ⟨by omega,hlt⟩ ?_
  rw [rd_nat hi2]
  have e:(decide ((2097152:Int)<(if (l[i].X)<(l[i].Y) then (l[i].Y) else (l[i].X)))||decide ((if (l[i].Y)<(l[i].X) then (l[i].Y) else (l[i].X))<(-2097152:Int)))=true↔¬ Near l[i]:=by
   rw [Bool.or_eq_true,decide_eq_true_eq,decide_eq_true_eq]
   unfold Near
   split<;>split<;>omega
  refine W.ite_i (fun hb=>h _ ?_) (fun hb=>?_)
  ·exact iff_of_false (by simp) fun k=>(e.1 hb) (k _ (List.getElem_mem hi2))
  ·rw [w64_succ (by omega)]
   refine hk hi2 fun p hp=>?_
   rw [List.take_add_one,List.getElem?_eq_getElem hi2] at hp
   rcases List.mem_append.1 hp with hp | hp
   ·exact hI p hp
   ·simp only [Option.toList_some,List.mem_singleton] at hp
    subst hp
    apply Classical.byContradiction
    intro hn
    rw [e.2 hn] at hb;cases hb
 ·have:i=l.length:=by omega
  subst this
  rw [List.take_length] at hI
  exact h true ⟨fun _=>hI,fun _=>rfl⟩
theorem cmpi_b {x y:Int} {Q:Int→Prop} (h:Q (if x<y then -1 else if y<x then 1 else 0)):wd.F x y Q:=by
 refine W.bind_i (W.bind_i (W.ite_i (fun k=>by simp at k) (fun _=>W.ite_i (fun k=>by simp at k) (fun _=>W.dec_i (fun h1=>?_) (fun h1=>W.dec_i (fun h2=>?_) (fun h2=>?_))))))
 ·rwa [if_pos h1] at h
 ·rwa [if_neg h1,if_pos h2] at h
 ·rwa [if_neg h1,if_neg h2] at h
theorem compare_b {a b:Point} {Q:Int→Prop} (h:∀ r,(r=-1∧Lt a b∨r=0∧a=b∨r=1∧Lt b a)→Q r):qs.F a b Q:=by
 refine W.bind_i ⟨3,?_⟩
 change Vi.l1 ([(a.X,b.X),(a.Y,b.Y)]:List (Int×Int)) Vi.c1 (W.iter1 (Vi.l1 ([(a.X,b.X),(a.Y,b.Y)]:List (Int×Int)) Vi.c1) 2) 0 _
 refine W.dec_i (fun _=>W.req_i ⟨by decide,by simp⟩ (W.bind_i (cmpi_b ?_))) (fun k=>by simp at k)
 have e:rd ((0:Int),(0:Int)) ([(a.X,b.X),(a.Y,b.Y)]:List (Int×Int)) 0=(a.X,b.X):=rfl
 simp only [e]
 rcases Int.lt_trichotomy a.X b.X with hx | hx | hx
 ·rw [if_pos hx];exact h _ (.inl ⟨rfl,.inl hx⟩)
 ·rw [if_neg (by omega),if_neg (by omega)]
  refine W.ite_i (fun k=>by simp at k) (fun _=>?_)
  change Vi.l1 ([(a.X,b.X),(a.Y,b.Y)]:List (Int×Int)) Vi.c1 (W.iter1 (Vi.l1 ([(a.X,b.X),(a.Y,b.Y)]:List (Int×Int)) Vi.c1) 1) (w64 (0+1)) _
  refine W.dec_i (fun _=>W.req_i ⟨by decide,by simp [w64_id]⟩ (W.bind_i (cmpi_b ?_))) (fun k=>by simp [w64_id] at k)
  have e:rd ((0:Int),(0:Int)) ([(a.X,b.X),(a.Y,b.Y)]:List (Int×Int)) (w64 (0+1))=(a.Y,b.Y):=rfl
  simp only [e]
  rcases Int.lt_trichotomy a.Y b.Y with hy | hy | hy
  ·rw [if_pos hy];exact h _ (.inl ⟨rfl,.inr ⟨hx,hy⟩⟩)
  ·rw [if_neg (by omega),if_neg (by omega)]
   refine W.ite_i (fun k=>by simp at k) (fun _=>?_)
   change Vi.l1 ([(a.X,b.X),(a.Y,b.Y)]:List (Int×Int)) Vi.c1 (W.iter1 (Vi.l1 ([(a.X,b.X),(a.Y,b.Y)]:List (Int×Int)) Vi.c1) 0) (w64 (w64 (0+1)+1)) _
   exact W.dec_i (fun k=>by simp [w64_id] at k) (fun k=>h _ (.inr (.inl ⟨rfl,pt_ext hx hy⟩)))
  ·rw [if_neg (by omega),if_pos hy];exact h _ (.inr (.inr ⟨rfl,.inr ⟨hx.symm,hy⟩⟩))
 ·rw [if_neg (by omega),if_pos hx];exact h _ (.inr (.inr ⟨rfl,.inl hx⟩))
theorem sorted_b {s:Segment} {Q:Segment→Prop} (h:∀ u,(u=s∨u=⟨s.B,s.A⟩)→Le u.A u.B→Q u):yo.F s Q:=by
 refine W.bind_i (compare_b fun r hr=>W.dec_i (fun hp=>h _ (.inr rfl) ?_) (fun hp=>h _ (.inl rfl) ?_))
 ·rcases hr with ⟨rfl,_⟩ | ⟨rfl,_⟩ | ⟨rfl,k⟩
  ·omega
  ·omega
  ·exact le_iff.2 (.inl k)
 ·rcases hr with ⟨rfl,k⟩ | ⟨rfl,k⟩ | ⟨rfl,k⟩
  ·exact le_iff.2 (.inl k)
  ·exact le_iff.2 (.inr k)
  ·omega
theorem orient_b {a b c:Point} (ha:Near a) (hb:Near b) (hc:Near c) {Q:Int→Prop} (h:Q (sgn (crs a b c))):qg.F a b c Q:=by
 refine W.bind_i (near_b (by simp) fun t ht=>W.ite_i (fun k=>?_) (fun _=>?_))
 ·rw [ht.2 (by simp [ha,hb,hc])] at k;cases k
 ·refine W.bind_i (W.bind_i (W.bind_i (W.bind_i (cmpi_b ?_))))
  rw [crs_w ha hb hc]
  exact h
theorem crs_flip (a b p:Point):crs b a p=0↔crs a b p=0:=by rw [crs_swap a b p];omega
theorem on_flip {s:Segment} {p:Point}:On ⟨s.B,s.A⟩ p↔On s p:=by
 unfold On Bx
 rw [show crs (Segment.mk s.B s.A).A (Segment.mk s.B s.A).B p=0↔crs s.A s.B p=0 from crs_flip s.A s.B p]
 dsimp only
 omega
theorem on_pt {u:Segment} (h:u.A=u.B) {p:Point}:On u p↔p=u.A:=by
 constructor
 ·rintro ⟨hb,_⟩
  unfold Bx at hb
  rw [← h] at hb
  exact pt_ext (by omega) (by omega)
 ·rintro rfl;exact on_A u
theorem on_b {s:Segment} {p:Point} (hs:NearS s) (hp:Near p) {Q:Bool→Prop} (h:∀ b,(b=true↔On s p)→Q b):geom_On.F s p Q:=by
 refine W.bind_i (near_b (by simp) fun t ht=>W.ite_i (fun k=>?_) (fun _=>?_))
 ·rw [ht.2 (by simp [hs.1,hs.2,hp])] at k;cases k
 ·refine W.bind_i (sorted_b fun u hu hle=>?_)
  have hou:On u p↔On s p:=by
   rcases hu with rfl | rfl
   ·exact Iff.rfl
   ·exact on_flip
  have hnu:NearS u:=by
   rcases hu with rfl | rfl
   ·exact hs
   ·exact ⟨hs.2,hs.1⟩
  replace h:∀ b,(b=true↔On u p)→Q b:=fun b hb=>h b (hb.trans hou)
  refine W.bind_i (orient_b hnu.1 hnu.2 hp (W.bind_i ?_))
  have h0:sgn (crs u.A u.B p)=0↔crs u.A u.B p=0:=by unfold sgn;split<;>(try split)<;>omega
  by_cases hc:crs u.A u.B p=0
  ·rw [h0.2 hc]
   refine compare_b fun r1 h1=>W.bind_i ?_
   have l1:r1≤0↔Le u.A p:=by
    unfold Lt at h1;unfold Le
    rcases h1 with h1 | ⟨h1,rfl⟩ | h1<;>omega
   have fin:∀ r2:Int,(r1≤0→(r2≤0↔Le p u.B))→Q (((((0:Int)==0)&&(decide (r1≤(0:Int))))&&(decide (r2≤(0:Int))))&&((!(Vg u.A u.B))||(Vg p u.A))):=fun r2 l2=>by
    refine h _ ?_
    simp only [beq_self_eq_true,Bool.true_and,Bool.and_eq_true,Bool.or_eq_true,Bool.not_eq_true',eq_pt,eq_pt_f,decide_eq_true_eq]
    by_cases he:u.A=u.B
    ·rw [on_pt he]
     constructor
     ·rintro ⟨_,k | k⟩
      ·exact absurd he k
      ·exact k
     ·rintro rfl
      have k1:=l1.2 (by unfold Le;omega)
      exact ⟨⟨k1,(l2 k1).2 (by rw [← he];unfold Le;omega)⟩,.inr rfl⟩
    ·have hlt:Lt u.A u.B:=(le_iff.1 hle).resolve_right he
     have lb:=line_between hlt hc
     constructor
     ·rintro ⟨⟨k1,k2⟩,_⟩
      exact ⟨lb.2 ⟨l1.1 k1,(l2 k1).1 k2⟩,hc⟩
     ·rintro ⟨k,_⟩
      have:=lb.1 k
      have k1:=l1.2 this.1
      exact ⟨⟨k1,(l2 k1).2 this.2⟩,.inl he⟩
   by_cases hr:r1≤0
   ·have fin':=fin
    rw [show (((0:Int)==0)&&decide (r1≤0))=true by simp [hr]] at fin' ⊢
    refine compare_b fun r2 h2=>?_
    refine fin' r2 fun _=>?_
    unfold Lt at h2;unfold Le
    rcases h2 with h2 | ⟨h2,rfl⟩ | h2<;>omega
   ·have fin':=fin 0 fun k=>absurd k hr
    rw [show (((0:Int)==0)&&decide (r1≤0))=false by simp [hr]] at fin' ⊢
    exact fin'
  ·have hf:(sgn (crs u.A u.B p)==0)=false:=by rw [beq_eq_false_iff_ne];exact fun k=>hc (h0.1 k)
   rw [hf]
   refine W.bind_i ?_
   refine h _ ?_
   exact iff_of_false (by simp) fun k=>hc k.2
theorem MeetsR.flip {s t:Segment} {n:Int} (h:MeetsR ⟨s.B,s.A⟩ t n):MeetsR s t n:=by
 have com:∀ p,Com s t p→Com ⟨s.B,s.A⟩ t p:=fun p hp=>⟨hp.1.imp_left Or.symm,on_flip.2 hp.2.1,hp.2.2⟩
 have com':∀ p,Com ⟨s.B,s.A⟩ t p→Com s t p:=fun p hp=>⟨hp.1.imp_left Or.symm,on_flip.1 hp.2.1,hp.2.2⟩
 have ne:NearS s∧NearS t↔NearS ⟨s.B,s.A⟩∧NearS t:=by unfold NearS;exact ⟨fun h=>⟨h.1.symm,h.2⟩,fun h=>⟨h.1.symm,h.2⟩⟩
 have se:SameEnds s t↔SameEnds ⟨s.B,s.A⟩ t:=by
  unfold SameEnds
  constructor
  ·rintro (h | h)
   ·exact .inr ⟨h.2,h.1⟩
   ·exact .inl ⟨h.2,h.1⟩
  ·rintro (h | h)
   ·exact .inr ⟨h.2,h.1⟩
   ·exact .inl ⟨h.2,h.1⟩
 have pr:Proper s t↔Proper ⟨s.B,s.A⟩ t:=by
  unfold Proper
  rw [show crs (Segment.mk s.B s.A).A (Segment.mk s.B s.A).B t.A=- crs s.A s.B t.A from crs_swap _ _ _,show crs (Segment.mk s.B s.A).A (Segment.mk s.B s.A).B t.B=- crs s.A s.B t.B from crs_swap _ _ _,Int.neg_mul_neg]
  show _∧_↔_∧crs t.A t.B s.B*crs t.A t.B s.A<0
  rw [Int.mul_comm (crs t.A t.B s.B)]
 cases h with
 | far h=>exact .far (fun k=>h (ne.1 k))
 | same n h=>exact .same (ne.2 n) (se.2 h)
 | over n h p q hne hp hq=>exact .over (ne.2 n) (fun k=>h (se.1 k)) p q hne (com' p hp) (com' q hq)
 | end_ n h p hp u e=>exact .end_ (ne.2 n) (fun k=>h (se.1 k)) p (com' p hp) (fun q hq=>u q (com q hq)) ⟨e.1.symm,e.2⟩
 | touch n h p hp u e=>exact .touch (ne.2 n) (fun k=>h (se.1 k)) p (com' p hp) (fun q hq=>u q (com q hq)) (fun k=>e ⟨k.1.symm,k.2⟩)
 | cross n h no c=>exact .cross (ne.2 n) (fun k=>h (se.1 k)) (fun p hp=>no p (com p hp)) (pr.2 c)
 | none n h no c=>exact .none (ne.2 n) (fun k=>h (se.1 k)) (fun p hp=>no p (com p hp)) (fun k=>c (pr.1 k))
theorem crs_pt (a p:Point):crs a a p=0:=by unfold crs;grind
theorem crs_aa (a b:Point):crs a b a=0:=by unfold crs;grind
theorem crs_bb (a b:Point):crs a b b=0:=by unfold crs;grind
theorem meets_pt {s t:Segment} (hn:NearS s∧NearS t) (hd:¬ SameEnds s t) (ht:t.A=t.B):(¬ On s t.A→MeetsR s t 0)∧(On s t.A→IsEnd s t.A→MeetsR s t 1)∧(On s t.A→¬ IsEnd s t.A→MeetsR s t 2):=by
 have com:∀ p,Com s t p↔p=t.A∧On s t.A:=fun p=>by
  unfold Com;rw [on_pt ht]
  constructor
  ·rintro ⟨_,h,rfl⟩;exact ⟨rfl,h⟩
  ·rintro ⟨rfl,h⟩;exact ⟨.inr (.inl rfl),h,rfl⟩
 refine ⟨fun h=>.none hn hd (fun p hp=>h ((com p).1 hp).2) ?_,fun h e=>.end_ hn hd t.A ((com _).2 ⟨rfl,h⟩) (fun q hq=>((com q).1 hq).1) ⟨e,.inl rfl⟩,fun h e=>.touch hn hd t.A ((com _).2 ⟨rfl,h⟩) (fun q hq=>((com q).1 hq).1) fun k=>e k.1⟩
 rintro ⟨_,k⟩
 rw [← ht,crs_pt] at k
 simp at k
theorem online_pt_b {s t:Segment} (hn:NearS s∧NearS t) (hd:¬ SameEnds s t) (ht:t.A=t.B) {Q:Int→Prop} (hq:∀ n,MeetsR s t n→Q n):Vv.c1 t s Q:=by
 have ⟨m0,m1,m2⟩:=meets_pt hn hd ht
 refine W.ite_i (fun _=>W.bind_i (on_b hn.1 hn.2.1 fun b hb=>W.ite_i (fun k=>hq _ (m0 ?_)) (fun k=>W.ite_i (fun e=>hq _ (m1 ?_ ?_)) (fun e=>hq _ (m2 ?_ ?_))))) (fun k=>absurd ht (eq_pt_f.1 k))
 ·intro h;rw [hb.2 h] at k;cases k
 ·simp only [Bool.not_eq_false'] at k;exact hb.1 k
 ·rw [Bool.or_eq_true,eq_pt,eq_pt] at e;exact e
 ·simp only [Bool.not_eq_false'] at k;exact hb.1 k
 ·rw [Bool.or_eq_false_iff,eq_pt_f,eq_pt_f] at e;exact fun h=>h.elim e.1 e.2
theorem meets_line {s t:Segment} (hn:NearS s∧NearS t) (hd:¬ SameEnds s t) (hs:Lt s.A s.B) (ht:Lt t.A t.B) (ha:crs s.A s.B t.A=0) (hb:crs s.A s.B t.B=0) (hc:crs t.A t.B s.A=0) (he:crs t.A t.B s.B=0) {lo hi:Point} (hlo:lo=s.A∧Le t.A s.A∨lo=t.A∧Le s.A t.A) (hhi:hi=s.B∧Le s.B t.B∨hi=t.B∧Le t.B s.B):(Lt lo hi→MeetsR s t 5)∧(lo=hi→MeetsR s t 1)∧(Lt hi lo→MeetsR s t 0):=by
 have ons:∀ p,(IsEnd s p∨IsEnd t p)→(On s p↔Le s.A p∧Le p s.B):=fun p hp=>by
  have h0:crs s.A s.B p=0:=by
   rcases hp with (rfl | rfl) | (rfl | rfl)
   ·exact crs_aa _ _
   ·exact crs_bb _ _
   ·exact ha
   ·exact hb
  rw [← line_between hs h0]
  exact ⟨fun k=>k.1,fun k=>⟨k,h0⟩⟩
 have ont:∀ p,(IsEnd s p∨IsEnd t p)→(On t p↔Le t.A p∧Le p t.B):=fun p hp=>by
  have h0:crs t.A t.B p=0:=by
   rcases hp with (rfl | rfl) | (rfl | rfl)
   ·exact hc
   ·exact he
   ·exact crs_aa _ _
   ·exact crs_bb _ _
  rw [← line_between ht h0]
  exact ⟨fun k=>k.1,fun k=>⟨k,h0⟩⟩
 have elo:IsEnd s lo∨IsEnd t lo:=hlo.imp (fun k=>.inl k.1) (fun k=>.inl k.1)
 have ehi:IsEnd s hi∨IsEnd t hi:=hhi.imp (fun k=>.inr k.1) (fun k=>.inr k.1)
 have llo:Le s.A lo∧Le t.A lo:=by
  unfold Le at *
  rcases hlo with ⟨rfl,h⟩ | ⟨rfl,h⟩<;>omega
 have lhi:Le hi s.B∧Le hi t.B:=by
  unfold Le at *
  rcases hhi with ⟨rfl,h⟩ | ⟨rfl,h⟩<;>omega
 have com:∀ p,Com s t p↔(IsEnd s p∨IsEnd t p)∧Le lo p∧Le p hi:=fun p=>by
  unfold Com
  constructor
  ·rintro ⟨h1,h2,h3⟩
   have h2:=(ons p h1).1 h2
   have h3:=(ont p h1).1 h3
   refine ⟨h1,?_,?_⟩
   ·rcases hlo with ⟨rfl,h⟩ | ⟨rfl,h⟩
    ·exact h2.1
    ·exact h3.1
   ·rcases hhi with ⟨rfl,h⟩ | ⟨rfl,h⟩
    ·exact h2.2
    ·exact h3.2
  ·rintro ⟨h1,h2,h3⟩
   refine ⟨h1,(ons p h1).2 ?_,(ont p h1).2 ?_⟩
   ·have:=llo.1;have:=lhi.1;unfold Le at *;omega
   ·have:=llo.2;have:=lhi.2;unfold Le at *;omega
 refine ⟨fun h=>?_,fun h=>?_,fun h=>?_⟩
 ·refine .over hn hd lo hi ?_ ((com lo).2 ⟨elo,?_,?_⟩) ((com hi).2 ⟨ehi,?_,?_⟩)
  ·rintro rfl;unfold Lt at h;omega
  ·unfold Le;omega
  ·exact le_iff.2 (.inl h)
  ·exact le_iff.2 (.inl h)
  ·unfold Le;omega
 ·subst h
  refine .end_ hn hd lo ((com lo).2 ⟨elo,?_,?_⟩) (fun q hq=>?_) ?_
  ·unfold Le;omega
  ·unfold Le;omega
  ·have:=((com q).1 hq).2
   unfold Le at this
   exact pt_ext (by omega) (by omega)
  ·rcases hlo with ⟨h1,_⟩ | ⟨h1,_⟩<;>rcases hhi with ⟨h2,_⟩ | ⟨h2,_⟩
   ·rw [← h1,← h2] at hs;unfold Lt at hs;omega
   ·exact ⟨.inl h1,.inr h2⟩
   ·exact ⟨.inr h2,.inl h1⟩
   ·rw [← h1,← h2] at ht;unfold Lt at ht;omega
 ·refine .none hn hd (fun p hp=>?_) ?_
  ·have:=((com p).1 hp).2
   unfold Le at this;unfold Lt at h;omega
  ·rintro ⟨k,_⟩;rw [ha] at k;simp at k
theorem online_b {s t:Segment} (hn:NearS s∧NearS t) (hd:¬ SameEnds s t) (hs:Le s.A s.B) (ht:Le t.A t.B) (h:s.A=s.B∨t.A=t.B∨(crs s.A s.B t.A=0∧crs s.A s.B t.B=0)) {Q:Int→Prop} (hq:∀ n,MeetsR s t n→Q n):Vv.F s t Q:=by
 refine W.ite_i (fun k=>online_pt_b hn hd (eq_pt.1 k) hq) (fun kt=>?_)
 rw [eq_pt_f] at kt
 by_cases ks:s.A=s.B
 ·exact online_pt_b hn.symm (fun k=>hd k.symm) ks fun n h=>hq n h.symm
 ·obtain ⟨ha,hb⟩:=(h.resolve_left ks).resolve_left kt
  have hs':Lt s.A s.B:=(le_iff.1 hs).resolve_right ks
  have ht':Lt t.A t.B:=(le_iff.1 ht).resolve_right kt
  have hce:crs t.A t.B s.A=0∧crs t.A t.B s.B=0:=by
   apply Classical.byContradiction
   intro hn
   have:=not_both (a:=t.A) (b:=t.B) (c:=s.A) (d:=s.B) ks (by omega)
   omega
  refine W.ite_i (fun k=>absurd (eq_pt.1 k) ks) (fun _=>?_)
  have key:∀ lo hi,(lo=s.A∧Le t.A s.A∨lo=t.A∧Le s.A t.A)→(hi=s.B∧Le s.B t.B∨hi=t.B∧Le t.B s.B)→Vv.c4 lo hi Q:=fun lo hi h1 h2=>by
   have ⟨m5,m1,m0⟩:=meets_line hn hd hs' ht' ha hb hce.1 hce.2 h1 h2
   refine W.bind_i (compare_b fun r hr=>?_)
   rcases hr with ⟨rfl,k⟩ | ⟨rfl,k⟩ | ⟨rfl,k⟩
   ·exact hq _ (m5 k)
   ·exact hq _ (m1 k)
   ·exact hq _ (m0 k)
  have c3:∀ lo,(lo=s.A∧Le t.A s.A∨lo=t.A∧Le s.A t.A)→Vv.c3 t s.B lo Q:=fun lo h1=>by
   refine W.bind_i (compare_b fun r hr=>W.dec_i (fun k=>key lo t.B h1 (.inr ⟨rfl,?_⟩)) (fun k=>key lo s.B h1 (.inl ⟨rfl,?_⟩)))
   ·unfold Lt at hr;unfold Le;omega
   ·rcases hr with ⟨rfl,g⟩ | ⟨rfl,g⟩ | ⟨rfl,g⟩
    ·omega
    ·rw [g];unfold Le;omega
    ·exact le_iff.2 (.inl g)
  refine W.bind_i (compare_b fun r hr=>W.dec_i (fun k=>c3 t.A (.inr ⟨rfl,?_⟩)) (fun k=>c3 s.A (.inl ⟨rfl,?_⟩)))
  ·rcases hr with ⟨rfl,g⟩ | ⟨rfl,g⟩ | ⟨rfl,g⟩
   ·omega
   ·omega
   ·exact le_iff.2 (.inl g)
  ·rcases hr with ⟨rfl,g⟩ | ⟨rfl,g⟩ | ⟨rfl,g⟩
   ·exact le_iff.2 (.inl g)
   ·exact le_iff.2 (.inr g)
   ·omega
theorem on_gen {a b c d:Point} (h:crs a b c≠0∨crs a b d≠0):(On ⟨a,b⟩ c↔crs a b c=0∧crs c d a*crs c d b≤0)∧(On ⟨a,b⟩ d↔crs a b d=0∧crs c d a*crs c d b≤0):=by
 constructor
 ·constructor
  ·rintro ⟨h1,h2⟩
   change crs a b c=0 at h2
   exact ⟨h2,(on_iff h2 (h.resolve_left fun k=>k h2)).1 h1⟩
  ·rintro ⟨h2,h1⟩
   exact ⟨(on_iff h2 (h.resolve_left fun k=>k h2)).2 h1,h2⟩
 ·have e:crs d c a*crs d c b=crs c d a*crs c d b:=by rw [crs_swap c d a,crs_swap c d b,Int.neg_mul_neg]
  constructor
  ·rintro ⟨h1,h2⟩
   change crs a b d=0 at h2
   exact ⟨h2,by rw [← e];exact (on_iff h2 (h.resolve_right fun k=>k h2)).1 h1⟩
  ·rintro ⟨h2,h1⟩
   rw [← e] at h1
   exact ⟨(on_iff h2 (h.resolve_right fun k=>k h2)).2 h1,h2⟩
theorem meets_touch {s t:Segment} (hn:NearS s∧NearS t) (hd:¬ SameEnds s t) (h1:crs s.A s.B t.A≠0∨crs s.A s.B t.B≠0) (h2:crs t.A t.B s.A≠0∨crs t.A t.B s.B≠0) (hab:crs s.A s.B t.A*crs s.A s.B t.B=0) (hcd:crs t.A t.B s.A*crs t.A t.B s.B<0):MeetsR s t 2:=by
 have og:=on_gen (a:=s.A) (b:=s.B) (c:=t.A) (d:=t.B) h1
 have hg:=on_gen (a:=t.A) (b:=t.B) (c:=s.A) (d:=s.B) h2
 have c0:crs t.A t.B s.A≠0:=fun k=>by rw [k] at hcd;simp at hcd
 have d0:crs t.A t.B s.B≠0:=fun k=>by rw [k] at hcd;simp at hcd
 have com:∀ q,Com s t q→q=t.A∧crs s.A s.B t.A=0∨q=t.B∧crs s.A s.B t.B=0:=by
  rintro q ⟨(rfl | rfl) | (rfl | rfl),k1,k2⟩
  ·exact absurd (hg.1.1 k2).1 c0
  ·exact absurd (hg.2.1 k2).1 d0
  ·exact .inl ⟨rfl,(og.1.1 k1).1⟩
  ·exact .inr ⟨rfl,(og.2.1 k1).1⟩
 rcases Int.mul_eq_zero.1 hab with h | h
 ·refine .touch hn hd t.A ⟨.inr (.inl rfl),og.1.2 ⟨h,by omega⟩,on_A t⟩ (fun q hq=>?_) ?_
  ·rcases com q hq with k | k
   ·exact k.1
   ·exact absurd k.2 (h1.resolve_left fun k=>k h)
  ·rintro ⟨k | k,_⟩
   ·rw [← k,crs_aa] at c0;exact c0 rfl
   ·rw [← k,crs_aa] at d0;exact d0 rfl
 ·refine .touch hn hd t.B ⟨.inr (.inr rfl),og.2.2 ⟨h,by omega⟩,on_B t⟩ (fun q hq=>?_) ?_
  ·rcases com q hq with k | k
   ·exact absurd k.2 (h1.resolve_right fun k=>k h)
   ·exact k.1
  ·rintro ⟨k | k,_⟩
   ·rw [← k,crs_bb] at c0;exact c0 rfl
   ·rw [← k,crs_bb] at d0;exact d0 rfl
theorem meets_gen {s t:Segment} (hn:NearS s∧NearS t) (hd:¬ SameEnds s t) (h1:crs s.A s.B t.A≠0∨crs s.A s.B t.B≠0) (h2:crs t.A t.B s.A≠0∨crs t.A t.B s.B≠0) {ab cd:Int} (eab:crs s.A s.B t.A*crs s.A s.B t.B=ab) (ecd:crs t.A t.B s.A*crs t.A t.B s.B=cd):((0<ab∨0<cd)→MeetsR s t 0)∧(ab<0→cd<0→MeetsR s t 3)∧(ab=0→cd=0→MeetsR s t 1):=by
 have og:=on_gen (a:=s.A) (b:=s.B) (c:=t.A) (d:=t.B) h1
 have hg:=on_gen (a:=t.A) (b:=t.B) (c:=s.A) (d:=s.B) h2
 rw [ecd] at og
 rw [eab] at hg
 have za:crs s.A s.B t.A=0→ab=0:=fun k=>by rw [← eab,k,Int.zero_mul]
 have zb:crs s.A s.B t.B=0→ab=0:=fun k=>by rw [← eab,k,Int.mul_zero]
 have zc:crs t.A t.B s.A=0→cd=0:=fun k=>by rw [← ecd,k,Int.zero_mul]
 have zd:crs t.A t.B s.B=0→cd=0:=fun k=>by rw [← ecd,k,Int.mul_zero]
 have com:∀ q,Com s t q→(q=s.A∧crs t.A t.B s.A=0∧ab≤0∧cd=0)∨(q=s.B∧crs t.A t.B s.B=0∧ab≤0∧cd=0)∨(q=t.A∧crs s.A s.B t.A=0∧cd≤0∧ab=0)∨(q=t.B∧crs s.A s.B t.B=0∧cd≤0∧ab=0):=by
  rintro q ⟨(rfl | rfl) | (rfl | rfl),k1,k2⟩
  ·have:=hg.1.1 k2;exact .inl ⟨rfl,this.1,this.2,zc this.1⟩
  ·have:=hg.2.1 k2;exact .inr (.inl ⟨rfl,this.1,this.2,zd this.1⟩)
  ·have:=og.1.1 k1;exact .inr (.inr (.inl ⟨rfl,this.1,this.2,za this.1⟩))
  ·have:=og.2.1 k1;exact .inr (.inr (.inr ⟨rfl,this.1,this.2,zb this.1⟩))
 refine ⟨fun h=>.none hn hd (fun q hq=>?_) ?_,fun k1 k2=>.cross hn hd (fun q hq=>?_) ⟨by rw [eab];exact k1,by rw [ecd];exact k2⟩,fun k1 k2=>?_⟩
 ·rcases com q hq with k | k | k | k<;>omega
 ·unfold Proper;rw [eab,ecd];omega
 ·rcases com q hq with k | k | k | k<;>omega
 ·have key:∀ p,(p=s.A∨p=s.B)→(p=t.A∨p=t.B)→(∀ q,Com s t q→q=p)→MeetsR s t 1:=fun p e1 e2 u=>by
   refine .end_ hn hd p ⟨.inl e1,?_,?_⟩ u ⟨e1,e2⟩
   ·rcases e1 with rfl | rfl
    ·exact on_A s
    ·exact on_B s
   ·rcases e2 with rfl | rfl
    ·exact on_A t
    ·exact on_B t
  rw [← eab] at k1
  rw [← ecd] at k2
  rcases Int.mul_eq_zero.1 k1 with ha | hb
  ·have hb:=h1.resolve_left fun k=>k ha
   rcases Int.mul_eq_zero.1 k2 with hc | hd'
   ·have hd':=h2.resolve_left fun k=>k hc
    have e:=end_of ha hb hc
    refine key s.A (.inl rfl) (.inl e.symm) fun q hq=>?_
    rcases com q hq with k | k | k | k
    ·exact k.1
    ·exact absurd k.2.1 hd'
    ·exact k.1.trans e
    ·exact absurd k.2.1 hb
   ·have hc:=h2.resolve_right fun k=>k hd'
    have e:=end_of (a:=s.B) (b:=s.A) (p:=t.A) (d:=t.B) ((crs_flip _ _ _).2 ha) (fun k=>hb ((crs_flip _ _ _).1 k)) hd'
    refine key s.B (.inr rfl) (.inl e.symm) fun q hq=>?_
    rcases com q hq with k | k | k | k
    ·exact absurd k.2.1 hc
    ·exact k.1
    ·exact k.1.trans e
    ·exact absurd k.2.1 hb
  ·have ha:=h1.resolve_right fun k=>k hb
   rcases Int.mul_eq_zero.1 k2 with hc | hd'
   ·have hd':=h2.resolve_left fun k=>k hc
    have e:=end_of (a:=s.A) (b:=s.B) (p:=t.B) (d:=t.A) hb ha ((crs_flip _ _ _).2 hc)
    refine key s.A (.inl rfl) (.inr e.symm) fun q hq=>?_
    rcases com q hq with k | k | k | k
    ·exact k.1
    ·exact absurd k.2.1 hd'
    ·exact absurd k.2.1 ha
    ·exact k.1.trans e
   ·have hc:=h2.resolve_right fun k=>k hd'
    have e:=end_of (a:=s.B) (b:=s.A) (p:=t.B) (d:=t.A) ((crs_flip _ _ _).2 hb) (fun k=>ha ((crs_flip _ _ _).1 k)) ((crs_flip _ _ _).2 hd')
    refine key s.B (.inr rfl) (.inr e.symm) fun q hq=>?_
    rcases com q hq with k | k | k | k
    ·exact absurd k.2.1 hc
    ·exact k.1
    ·exact absurd k.2.1 ha
    ·exact k.1.trans e
theorem meets_c1_b {s t:Segment} (hn:NearS s∧NearS t) (hs:Le s.A s.B) (ht:Le t.A t.B) {Q:Int→Prop} (hq:∀ n,MeetsR s t n→Q n):wq.c1 s t Q:=by
 refine W.ite_i (fun k=>hq _ (.same hn (.inl (eq_sg.1 k)))) (fun k=>?_)
 have hd:¬ SameEnds s t:=by
  rintro (h | ⟨h1,h2⟩)
  ·rw [eq_sg.2 h] at k;cases k
  ·rw [h1,h2] at hs
   have e:t.A=t.B:=by unfold Le at hs ht;exact pt_ext (by omega) (by omega)
   rw [eq_sg.2 ⟨h1.trans e.symm,h2.trans e⟩] at k;cases k
 have z:∀ n,sgn n=0↔n=0:=fun n=>by unfold sgn;split<;>(try split)<;>omega
 refine W.bind_i ?_
 have main:s.A≠s.B→t.A≠t.B→¬ (crs s.A s.B t.A=0∧crs s.A s.B t.B=0)→(W.bind (qg.F s.A s.B t.A) (fun r7=>W.bind (qg.F s.A s.B t.B) (fun r8=>W.bind (qg.F t.A t.B s.A) (fun r9=>W.bind (qg.F t.A t.B s.B) (fun r10=>W.ite ((decide ((0:Int)<(w64 (r7*r8))))||(decide ((0:Int)<(w64 (r9*r10))))) (W.ret (0:Int)) (W.ite ((decide ((w64 (r7*r8))<(0:Int)))&&(decide ((w64 (r9*r10))<(0:Int)))) (W.ret (3:Int)) (W.ite (((w64 (r7*r8))==(0:Int))&&((w64 (r9*r10))==(0:Int))) (W.ret (1:Int)) (W.ret (2:Int))))))))) Q:=fun n1 n2 h=>by
  have h1:crs s.A s.B t.A≠0∨crs s.A s.B t.B≠0:=by omega
  have h2:=not_both n2 h1
  have ⟨m0,m3,m1⟩:=meets_gen hn hd h1 h2 rfl rfl
  refine W.bind_i (orient_b hn.1.1 hn.1.2 hn.2.1 (W.bind_i (orient_b hn.1.1 hn.1.2 hn.2.2 (W.bind_i (orient_b hn.2.1 hn.2.2 hn.1.1 (W.bind_i (orient_b hn.2.1 hn.2.2 hn.1.2 ?_)))))))
  rw [sgn_w.1,sgn_w.1]
  refine W.ite_i (fun k=>hq _ (m0 ?_)) (fun k=>W.ite_i (fun k2=>hq _ (m3 ?_ ?_)) (fun k2=>W.ite_i (fun k3=>hq _ (m1 ?_ ?_)) (fun k3=>hq _ ?_)))
  ·simpa only [Bool.or_eq_true,decide_eq_true_eq,sgn_w.2.2.1] using k
  ·simp only [Bool.and_eq_true,decide_eq_true_eq,sgn_w.2.1] at k2;exact k2.1
  ·simp only [Bool.and_eq_true,decide_eq_true_eq,sgn_w.2.1] at k2;exact k2.2
  ·simp only [Bool.and_eq_true,beq_iff_eq,sgn_w.2.2.2] at k3;exact k3.1
  ·simp only [Bool.and_eq_true,beq_iff_eq,sgn_w.2.2.2] at k3;exact k3.2
  ·rw [← Bool.not_eq_true] at k k2 k3
   simp only [Bool.and_eq_true,Bool.or_eq_true,decide_eq_true_eq,beq_iff_eq,sgn_w.2.1,sgn_w.2.2.1,sgn_w.2.2.2] at k k2 k3
   rcases (show (crs s.A s.B t.A*crs s.A s.B t.B=0∧crs t.A t.B s.A*crs t.A t.B s.B<0)∨(crs t.A t.B s.A*crs t.A t.B s.B=0∧crs s.A s.B t.A*crs s.A s.B t.B<0) by omega) with h | h
   ·exact meets_touch hn hd h1 h2 h.1 h.2
   ·exact (meets_touch hn.symm (fun k=>hd k.symm) h2 h1 h.1 h.2).symm
 by_cases hp:s.A=s.B∨t.A=t.B
 ·rw [show (Vg s.A s.B||Vg t.A t.B)=true by rw [Bool.or_eq_true,eq_pt,eq_pt];exact hp]
  exact W.bind_i (online_b hn hd hs ht (hp.imp_right .inl) hq)
 ·rw [show (Vg s.A s.B||Vg t.A t.B)=false by rw [Bool.or_eq_false_iff,eq_pt_f,eq_pt_f];exact ⟨fun k=>hp (.inl k),fun k=>hp (.inr k)⟩]
  refine orient_b hn.1.1 hn.1.2 hn.2.1 (W.bind_i ?_)
  by_cases ha:crs s.A s.B t.A=0
  ·rw [show (!false&&sgn (crs s.A s.B t.A)==0)=true by simp [(z _).2 ha]]
   refine orient_b hn.1.1 hn.1.2 hn.2.2 ?_
   refine W.ite_i (fun k=>W.bind_i (online_b hn hd hs ht (.inr (.inr ⟨ha,?_⟩)) hq)) (fun k=>main (fun k=>hp (.inl k)) (fun k=>hp (.inr k)) ?_)
   ·simp only [Bool.or_eq_true,Bool.and_eq_true,beq_iff_eq,z] at k
    exact (k.resolve_left (by simp)).2
   ·rw [← Bool.not_eq_true] at k
    simp only [Bool.or_eq_true,Bool.and_eq_true,beq_iff_eq,z] at k
    exact fun h=>k (.inr h)
  ·have hf:(sgn (crs s.A s.B t.A)==0)=false:=by rw [beq_eq_false_iff_ne];exact fun k=>ha ((z _).1 k)
   rw [hf]
   refine W.ite_i (fun k=>by simp at k) (fun _=>main (fun k=>hp (.inl k)) (fun k=>hp (.inr k)) fun k=>ha k.1)
theorem meets_b {s t:Segment} {Q:Int→Prop} (hq:∀ n,MeetsR s t n→Q n):wq.F s t Q:=by
 refine W.bind_i (near_b (by simp) fun b hb=>W.ite_i (fun k=>hq _ (.far fun h=>?_)) (fun k=>?_))
 ·rw [hb.2 (by simp [h.1.1,h.1.2,h.2.1,h.2.2])] at k;cases k
 ·simp only [Bool.not_eq_false'] at k
  have hn:=hb.1 k
  simp only [List.mem_cons,List.not_mem_nil,or_false,forall_eq_or_imp,forall_eq] at hn
  have n:NearS s∧NearS t:=⟨⟨hn.1,hn.2.1⟩,⟨hn.2.2.1,hn.2.2.2⟩⟩
  refine W.bind_i (sorted_b fun u hu lu=>W.bind_i (sorted_b fun v hv lv=>?_))
  have nu:NearS u:=hu.elim (fun e=>e ▸ n.1) (fun e=>e ▸ n.1.symm)
  have nv:NearS v:=hv.elim (fun e=>e ▸ n.2) (fun e=>e ▸ n.2.symm)
  refine meets_c1_b ⟨nu,nv⟩ lu lv fun m hm=>hq m ?_
  have h1:MeetsR u t m:=by
   rcases hv with rfl | rfl
   ·exact hm
   ·exact (MeetsR.flip hm.symm).symm
  rcases hu with rfl | rfl
  ·exact h1
  ·exact MeetsR.flip h1
end Go.Gp.Gb
end
section
set_option linter.unusedVariables false
set_option linter.unusedSimpArgs false
set_option maxRecDepth 10000
namespace Go.Gp
theorem mhas_mset {κ ν:Type} [DecidableEq κ] (k k':κ) (v:ν):∀ m:List (κ×ν),mhas k (mset k' v m)=true↔k'=k∨mhas k m=true
 | []=>by simp [mset,mhas]
 | (a,x)::m=>by
  simp only [mset]
  by_cases h:a=k'
  ·subst h
   by_cases h2:a=k
   ·simp [mhas,h2]
   ·simp [mhas,h2]
  ·simp only [if_neg h,mhas]
   by_cases h2:a=k
   ·simp [h2]
   ·simp only [if_neg h2,mhas_mset k k' v m]
theorem mhas_mem {κ ν:Type} [DecidableEq κ] {k:κ}:∀ {m:List (κ×ν)},mhas k m=true↔k∈m.map (·.1)
 | []=>by simp [mhas]
 | (a,x)::m=>by
  simp only [mhas,List.map_cons,List.mem_cons]
  by_cases h:a=k
  ·simp [h]
  ·rw [if_neg h,mhas_mem];simp [Ne.symm h]
theorem keys_mset {κ ν:Type} [DecidableEq κ] (k:κ) (v:ν):∀ m:List (κ×ν),(mset k v m).map (·.1)=if k∈m.map (·.1) then m.map (·.1) else m.map (·.1)++[k]
 | []=>by simp [mset]
 | (a,x)::m=>by
  simp only [mset]
  by_cases h:a=k
  ·subst h;simp
  ·have:=keys_mset k v m
   simp only [if_neg h,List.map_cons,this,List.mem_cons,Ne.symm h,false_or]
   split<;>simp
theorem mget_mem {κ ν:Type} [DecidableEq κ] {z:ν}:∀ {m:List (κ×ν)},(m.map (·.1)).Nodup→∀ e∈m,mget e.1 z m=e.2
 | [],_,e,he=>by cases he
 | (a,x)::m,hn,e,he=>by
  rw [List.map_cons,List.nodup_cons] at hn
  rcases List.mem_cons.1 he with rfl | he
  ·simp [mget]
  ·have:a≠e.1:=fun k=>hn.1 (by have:=List.mem_map_of_mem (f:=(·.1)) he;rw [← k] at this;exact this)
   simp only [mget,if_neg this]
   exact mget_mem hn.2 e he
end Go.Gp
namespace Go.Gp.Gb
open Geo
structure AtIs (m:Map) (x:List (ByteArray×Int)):Prop where
 has:∀ id,mhas id x=true↔∃ j:Nat,Holds m id j
 get:∀ id j,Holds m id j→mget id (0:Int) x=(j:Int)
theorem border_of_b {m:Map} (hf:MapFit m) {Q:Va×Bool→Prop} (hn:¬ MapOk m→Q (⟨zMap,[]⟩,false)) (hq:MapOk m→∀ x,AtIs m x→Q (⟨m,x⟩,true)):wg.F m Q:=by
 refine W.bind_i (atlas_Valid_b hf fun b hb=>W.ite_i (fun k=>hn fun hv=>?_) (fun k=>?_))
 ·rw [hb.2 hv] at k;cases k
 have h:MapOk m:=by rw [Bool.not_eq_false'] at k;exact hb.1 k
 have hl:=h.few
 refine W.up2 m.Objects.length (fun i x=>(∀ id,mhas id x=true↔∃ j:Nat,j<i∧Holds m id j)∧∀ id j,j<i→Holds m id j→mget id (0:Int) x=(j:Int)) ⟨fun id=>by simp [mhas],fun id j hj=>by omega⟩ (fun K i x hi hI hK=>?_)
 refine W.dec_i (fun hlt=>W.req_i ⟨by omega,hlt⟩ ?_) (fun hge=>?_)
 ·have hi':i<m.Objects.length:=by omega
  rw [w64_succ (by omega)]
  refine hK hi' _ ⟨fun id=>?_,fun id j hj hh=>?_⟩
  ·rw [mhas_mset,hI.1]
   constructor
   ·rintro (e | ⟨j,hj,hh⟩)
    ·exact ⟨i,by omega,hi',e⟩
    ·exact ⟨j,by omega,hh⟩
   ·rintro ⟨j,hj,hh⟩
    by_cases e:j=i
    ·subst e;exact .inl hh.2
    ·exact .inr ⟨j,by omega,hh⟩
  ·rw [mget_mset]
   by_cases e:j=i
   ·subst e;rw [if_pos hh.2]
   ·rw [if_neg,hI.2 id j (by omega) hh]
    intro k
    exact e (h.inj hh.1 hi' (hh.2.trans k.symm))
 ·have:i=m.Objects.length:=by omega
  subst this
  refine hq h x ⟨fun id=>?_,fun id j hh=>hI.2 id j hh.1 hh⟩
  rw [hI.1]
  constructor
  ·rintro ⟨j,_,hh⟩;exact ⟨j,hh⟩
  ·rintro ⟨j,hh⟩;exact ⟨j,hh.1,hh⟩
theorem nodes_b {m:Map} (h:MapOk m) {x:List (ByteArray×Int)} (hx:AtIs m x) {o:Object} (ho:o.Refs.length≤2000) {Q:Bool→Prop} (hq:∀ b,(b=true↔SoundP m o)→Q b):wh.F ⟨m,x⟩ o Q:=by
 have hl:=h.few
 refine W.bind_i (W.bind_i (W.up1 o.Refs.length (fun i=>∀ k,k<i→Nd m (rs o.Refs k)) (fun k hk=>by omega) (fun K i hi hI hk=>?_)))
 refine W.dec_i (fun hlt=>W.req_i ⟨by omega,hlt⟩ (W.bind_i ?_)) (fun hge=>hq _ (iff_of_true (by decide) fun k hk=>hI k (by omega)))
 have hi':i<o.Refs.length:=by omega
 unfold qx.F
 show W.req (_=true→0≤mget (rs o.Refs i) 0 x∧_) _ _
 have bad:¬ Nd m (rs o.Refs i)→Q (!(decide ((0:Int)≤(i:Int)))):=fun hno=>hq _ (iff_of_false (by simp) fun hs=>hno (hs i hi'))
 by_cases hh:mhas (rs o.Refs i) x=true
 ·obtain ⟨j,hj⟩:=(hx.has _).1 hh
  rw [hx.get _ j hj]
  refine W.req_i (fun _=>⟨by omega,by have:=hj.1;show (j:Int)<(m.Objects.length:Int);omega⟩) ?_
  refine W.ite_i (fun k=>?_) (fun k=>?_)
  ·refine bad ?_
   rintro ⟨j',hj',h1⟩
   rw [show mhas (rd (⟨#[]⟩:ByteArray) o.Refs (i:Int)) (Va.mk m x).at_=true from hh] at k
   simp only [Bool.not_true,Bool.false_or,bne_iff_ne] at k
   apply k
   have:=h.inj hj.1 hj'.1 (hj.2.trans hj'.2.symm)
   subst this
   exact h1
  ·rw [w64_succ (by omega)]
   refine hk hi' fun k' hk'=>?_
   by_cases e:k'=i
   ·subst e
    rw [Bool.or_eq_false_iff,bne_eq_false_iff_eq] at k
    exact ⟨j,hj,k.2⟩
   ·exact hI k' (by omega)
 ·have hh':mhas (rs o.Refs i) x=false:=by rw [← Bool.not_eq_true];exact hh
  refine W.req_i (fun k=>?_) (W.ite_i (fun k=>bad ?_) (fun k=>?_))
  ·rw [Bool.not_not] at k
   exact absurd k hh
  ·rintro ⟨j,hj,_⟩;exact hh ((hx.has _).2 ⟨j,hj⟩)
  ·rw [Bool.or_eq_false_iff,Bool.not_eq_false'] at k
   exact absurd k.1 hh
structure MapIs (ow:Key→List ByteArray) (x:List (Key×List ByteArray)):Prop where
 get:∀ s,mget s [] x=ow s
 mem:∀ s,s∈x.map (·.1)↔ow s≠[]
 nodup:(x.map (·.1)).Nodup
theorem contains_b {l:List ByteArray} (hl:l.length≤4000000000) {v:ByteArray} {Q:Bool→Prop} (hq:∀ b,(b=true↔v∈l)→Q b):Jm.F l v Q:=by
 refine W.bind_i (W.up1 l.length (fun i=>v∉l.take i) (by simp) (fun K i hi hI hk=>?_))
 refine W.dec_i (fun hlt=>W.req_i ⟨by omega,hlt⟩ ?_) (fun hge=>?_)
 ·have hi':i<l.length:=by omega
  rw [rd_nat hi']
  refine W.ite_i (fun k=>?_) (fun k=>?_)
  ·rw [sEq_eq] at k
   exact hq _ (iff_of_true (by simp) (k ▸ List.getElem_mem hi'))
  ·rw [sEq_false] at k
   rw [w64_succ (by omega)]
   refine hk hi' ?_
   rw [List.take_add_one,List.getElem?_eq_getElem hi']
   simp only [Option.toList_some,List.mem_append,List.mem_singleton]
   rintro (h | h)
   ·exact hI h
   ·exact k h
 ·have:i=l.length:=by omega
  subst this
  rw [List.take_length] at hI
  exact hq _ (iff_of_false (by decide) hI)
theorem lines_l3_b {m:Map} (h:MapOk m) {x:List (ByteArray×Int)} {n:Nat} (hn:n<m.Objects.length) (hs:SoundP m (ob m n)) (hk:(ob m n).Kind=2∨(ob m n).Kind=3) {t:List (Key×List ByteArray)} (ht:MapIs (own m n) t) (hl:t.length≤2001*n) {K:List (Key×List ByteArray)→W (List Jv)} {Q:List Jv→Prop} (hq:∀ t',MapIs (own m (n+1)) t'→t'.length≤2001*(n+1)→K t' Q):(W.ex fun N=>W.iter2 (Jd.l3 ⟨m,x⟩ (n:Int) K) N t (0:Int)) Q:=by
 have ho:=h.each n hn
 have hc1:=ho.count.1
 have hfew:=h.few
 have esides:sides (ob m n)=(List.range (sidesN (ob m n))).map fun i=>key (rs (ob m n).Refs i) (nxt (ob m n).Refs i):=by unfold sides;rw [if_pos hk]
 have hsl:(sides (ob m n)).length=sidesN (ob m n):=by rw [esides];simp
 have hsN:sidesN (ob m n)≤(ob m n).Refs.length∧((ob m n).Kind=3→sidesN (ob m n)=(ob m n).Refs.length)∧((ob m n).Kind=2→sidesN (ob m n)=(ob m n).Refs.length-1):=by
  unfold sidesN
  refine ⟨by split<;>omega,fun e=>if_pos e,fun e=>if_neg (by omega)⟩
 refine W.up2 (sidesN (ob m n)) (fun k t=>MapIs (ownK m n k) t∧t.length≤2001*n+k) ⟨by rw [ownK_zero];exact ht,by omega⟩ (fun K2 k t hkn hI hK2=>?_)
 obtain ⟨hI,htl⟩:=hI
 have done:k=sidesN (ob m n)→K t Q:=fun e=>by
  refine hq t ?_ (by omega)
  rw [ownK_all (.inl (by omega))] at hI
  exact hI
 refine W.dec_i (fun hlt=>W.req_i ⟨by omega,hlt⟩ ?_) (fun hge=>?_)
 ·have hk':k<(ob m n).Refs.length:=by
   have:(k:Int)<((ob m n).Refs.length:Int):=hlt
   omega
  rw [w64_succ (by omega)]
  show W.ite ((((k+1:Nat):Int)==((ob m n).Refs.length:Int))&&((ob m n).Kind==(2:Int))) _ _ Q
  refine W.ite_i (fun hb=>?_) (fun hb=>?_)
  ·rw [Bool.and_eq_true,beq_iff_eq,beq_iff_eq] at hb
   refine done ?_
   have:=hsN.2.2 hb.2
   omega
  ·have hk2:k<sidesN (ob m n):=by
    rcases hk with e | e
    ·have:=hsN.2.2 e
     have hb':¬ (((k+1:Nat):Int)=((ob m n).Refs.length:Int)):=fun hh=>by
      rw [show (((k+1:Nat):Int)==((ob m n).Refs.length:Int))=true by rw [beq_iff_eq];exact hh,e] at hb
      cases hb
     omega
    ·have:=hsN.2.1 e
     omega
   have etm:Int.tmod ((k+1:Nat):Int) ((ob m n).Refs.length:Int)=(((k+1) % (ob m n).Refs.length:Nat):Int):=(Int.ofNat_tmod _ _).symm
   have enx:rd (⟨#[]⟩:ByteArray) (ob m n).Refs (((k+1) % (ob m n).Refs.length:Nat):Int)=nxt (ob m n).Refs k:=by
    unfold nxt
    split
    ·rw [Nat.mod_eq_of_lt (by assumption)]
    ·rw [show k+1=(ob m n).Refs.length by omega,Nat.mod_self]
   have hks:k<(sides (ob m n)).length:=by omega
   have ek:(sides (ob m n))[k]=key (rs (ob m n).Refs k) (nxt (ob m n).Refs k):=by
    simp [esides]
   show W.req (((ob m n).Refs.length:Int)≠0) _ _
   refine W.req_i (by omega) ?_
   show W.req (0≤Int.tmod ((k+1:Nat):Int) ((ob m n).Refs.length:Int)∧Int.tmod ((k+1:Nat):Int) ((ob m n).Refs.length:Int)<((ob m n).Refs.length:Int)) _ _
   rw [etm]
   refine W.req_i ⟨by omega,by have:=Nat.mod_lt (k+1) (show 0<(ob m n).Refs.length by omega);omega⟩ ?_
   rw [show (rd zObject (Va.mk m x).m.Objects (n:Int))=ob m n from rfl,enx]
   show W.bind (Jm.F (mget (key (rs (ob m n).Refs k) (nxt (ob m n).Refs k)) ([]:List ByteArray) t) (ob m n).Id) _ _
   rw [← ek,hI.get]
   have hol:=ownK_len (m:=m) (n:=n) (k:=k) (s:=(sides (ob m n))[k])
   have eks:=ownK_succ h hn hs hks
   refine W.bind_i (contains_b (by omega) fun b hb=>W.ite_i (fun hf=>?_) (fun hf=>?_))
   ·rw [Bool.not_eq_true'] at hf
    have hnm:(sides (ob m n))[k]∉(sides (ob m n)).take k:=fun hh=>by
     rw [hb.2 ((ownK_mem h hn hs).2 hh)] at hf;cases hf
    show W.req (((mget (key (rs (ob m n).Refs k) (nxt (ob m n).Refs k)) ([]:List ByteArray) t).length+_)*16≤_∧_) (K2 (mset (key (rs (ob m n).Refs k) (nxt (ob m n).Refs k)) ((mget (key (rs (ob m n).Refs k) (nxt (ob m n).Refs k)) ([]:List ByteArray) t)++[(ob m n).Id]) t) _) _
    rw [← ek,hI.get]
    refine W.req_i ?_ ?_
    ·show _∧((mget (key (rs (ob m n).Refs k) (nxt (ob m n).Refs k)) ([]:List ByteArray) t).length+1≤_)
     rw [← ek,hI.get]
     simp only [List.length_cons,List.length_nil];omega
    ·have hke:=keys_mset (sides (ob m n))[k] (ownK m n k (sides (ob m n))[k]++[(ob m n).Id]) t
     refine hK2 hk2 _ ⟨⟨fun s=>?_,fun s=>?_,?_⟩,?_⟩
     ·rw [mget_mset,eks]
      by_cases e:(sides (ob m n))[k]=s
      ·rw [if_pos e,if_pos ⟨e.symm,hnm⟩,e]
      ·rw [if_neg e,if_neg (fun hh=>e hh.1.symm),hI.get]
     ·rw [hke,eks]
      by_cases e:s=(sides (ob m n))[k]
      ·subst e
       rw [if_pos (And.intro rfl hnm)]
       refine iff_of_true ?_ (by simp)
       split
       ·rename_i hh;exact hh
       ·exact List.mem_append_right _ (List.mem_singleton.2 rfl)
      ·rw [if_neg (c:=s=_∧_) (fun hh=>e hh.1),← hI.mem]
       split
       ·exact Iff.rfl
       ·rw [List.mem_append,List.mem_singleton];simp [e]
     ·rw [hke]
      split
      ·exact hI.nodup
      ·rename_i hh
       rw [List.nodup_append]
       exact ⟨hI.nodup,by simp,fun a ha b hb e=>by simp at hb;subst hb;subst e;exact hh ha⟩
     ·have:=congrArg List.length hke
      rw [List.length_map] at this
      rw [this]
      split<;>simp<;>omega
   ·rw [Bool.not_eq_false'] at hf
    have hm:=(ownK_mem h hn hs).1 (hb.1 hf)
    refine hK2 hk2 _ ⟨?_,by omega⟩
    have e:ownK m n (k+1)=ownK m n k:=by
     funext s
     rw [eks,if_neg (fun hh=>hh.2 hm)]
    rw [e];exact hI
 ·refine done ?_
  have:¬ (k:Int)<((ob m n).Refs.length:Int):=hge
  omega
open Classical in
noncomputable def cf (a b:Jv):Int:=if kLt a.nodes b.nodes then -1 else if kLt b.nodes a.nodes then 1 else 0
theorem cf_neg {a b:Jv}:cf a b<0↔kLt a.nodes b.nodes:=by
 unfold cf
 split
 ·rename_i h;exact ⟨fun _=>h,fun _=>by decide⟩
 ·rename_i h;split<;>exact ⟨fun k=>by omega,fun k=>absurd k h⟩
theorem cf_ok (xs:List Jv):SWOn cf xs:={
 irrefl:=fun x _=>by rw [cf_neg];exact kLt.irr
 trans:=fun x y z _ _ _=>by rw [cf_neg,cf_neg,cf_neg];exact kLt.trans
 ntrans:=fun x y z _ _ _=>by
  rw [cf_neg,cf_neg,cf_neg]
  intro h1 h2 h3
  rcases kLt.tri x.nodes y.nodes with k | k | k
  ·exact h1 k
  ·rw [k] at h3;exact h2 h3
  ·exact h2 (k.trans h3) }
def cmpS (a b:ByteArray):Int:=if sLt a b=true then -1 else if sLt b a=true then 1 else 0
theorem cmps_b {a b:ByteArray} {Q:Int→Prop} (h:Q (cmpS a b)):wb.F a b Q:=by
 refine W.bind_i (W.bind_i (W.ite_i (fun k=>by simp [sEq_self] at k) (fun _=>W.ite_i (fun k=>by simp [sEq_self] at k) (fun _=>W.ite_i (fun h1=>?_) (fun h1=>W.ite_i (fun h2=>?_) (fun h2=>?_))))))
 ·unfold cmpS at h;rwa [if_pos h1] at h
 ·unfold cmpS at h
  rw [Bool.not_eq_true',sLe_not] at h2
  rwa [if_neg (by rw [h1];simp),if_pos h2] at h
 ·unfold cmpS at h
  rw [Bool.not_eq_false',sLe_is] at h2
  rwa [if_neg (by rw [h1];simp),if_neg (by rw [h2];simp)] at h
theorem cmpl_b {a b:Jv} {Q:Int→Prop} (h:Q (cf a b)):wk.F a b Q:=by
 refine W.bind_i ⟨3,?_⟩
 change Vh.l1 ([a.nodes.1,b.nodes.1,a.nodes.2,b.nodes.2]:List ByteArray) Vh.c1 (W.iter1 (Vh.l1 ([a.nodes.1,b.nodes.1,a.nodes.2,b.nodes.2]:List ByteArray) Vh.c1) 2) 0 _
 refine W.dec_i (fun _=>W.req_i ⟨by decide,by simp⟩ (W.req_i ⟨by simp [w64_id],by simp [w64_id]⟩ (W.bind_i (cmps_b ?_)))) (fun k=>by simp [w64_id] at k)
 have e1:rd (⟨#[]⟩:ByteArray) ([a.nodes.1,b.nodes.1,a.nodes.2,b.nodes.2]:List ByteArray) 0=a.nodes.1:=rfl
 have e2:rd (⟨#[]⟩:ByteArray) ([a.nodes.1,b.nodes.1,a.nodes.2,b.nodes.2]:List ByteArray) (w64 (0+1))=b.nodes.1:=rfl
 have e3:rd (⟨#[]⟩:ByteArray) ([a.nodes.1,b.nodes.1,a.nodes.2,b.nodes.2]:List ByteArray) (w64 (0+2))=a.nodes.2:=rfl
 have e4:rd (⟨#[]⟩:ByteArray) ([a.nodes.1,b.nodes.1,a.nodes.2,b.nodes.2]:List ByteArray) (w64 (w64 (0+2)+1))=b.nodes.2:=rfl
 rw [e1,e2]
 unfold cf at h
 unfold cmpS
 by_cases h1:sLt a.nodes.1 b.nodes.1=true
 ·rw [if_pos h1]
  rw [if_pos (.inl h1)] at h
  exact h
 ·rw [if_neg h1]
  by_cases h2:sLt b.nodes.1 a.nodes.1=true
  ·rw [if_pos h2]
   rw [if_neg,if_pos (.inl h2)] at h
   ·exact h
   ·rintro (k | ⟨k,_⟩)
    ·exact h1 k
    ·rw [k] at h2;rw [sLt_irr] at h2;cases h2
  ·rw [if_neg h2]
   have e:a.nodes.1=b.nodes.1:=by
    rcases sLt_tri a.nodes.1 b.nodes.1 with k | k | k
    ·exact absurd k h1
    ·exact k
    ·exact absurd k h2
   refine W.ite_i (fun k=>by simp at k) (fun _=>?_)
   change Vh.l1 ([a.nodes.1,b.nodes.1,a.nodes.2,b.nodes.2]:List ByteArray) Vh.c1 (W.iter1 (Vh.l1 ([a.nodes.1,b.nodes.1,a.nodes.2,b.nodes.2]:List ByteArray) Vh.c1) 1) (w64 (0+2)) _
   refine W.dec_i (fun _=>W.req_i ⟨by simp [w64_id],by simp [w64_id]⟩ (W.req_i ⟨by simp [w64_id],by simp [w64_id]⟩ (W.bind_i (cmps_b ?_)))) (fun k=>by simp [w64_id] at k)
   rw [e3,e4]
   unfold cmpS
   have k1:kLt a.nodes b.nodes↔sLt a.nodes.2 b.nodes.2=true:=⟨fun k=>k.elim (fun k=>absurd k h1) (·.2),fun k=>.inr ⟨e,k⟩⟩
   have k2:kLt b.nodes a.nodes↔sLt b.nodes.2 a.nodes.2=true:=⟨fun k=>k.elim (fun k=>absurd k h2) (·.2),fun k=>.inr ⟨e.symm,k⟩⟩
   by_cases h3:sLt a.nodes.2 b.nodes.2=true
   ·rw [if_pos h3];rw [if_pos (k1.2 h3)] at h;exact h
   ·rw [if_neg h3]
    rw [if_neg (fun k=>h3 (k1.1 k))] at h
    by_cases h4:sLt b.nodes.2 a.nodes.2=true
    ·rw [if_pos h4];rw [if_pos (k2.2 h4)] at h;exact h
    ·rw [if_neg h4]
     rw [if_neg (fun k=>h4 (k2.1 k))] at h
     refine W.ite_i (fun k=>by simp at k) (fun _=>?_)
     change Vh.l1 ([a.nodes.1,b.nodes.1,a.nodes.2,b.nodes.2]:List ByteArray) Vh.c1 (W.iter1 (Vh.l1 ([a.nodes.1,b.nodes.1,a.nodes.2,b.nodes.2]:List ByteArray) Vh.c1) 0) (w64 (w64 (0+2)+2)) _
     exact W.dec_i (fun k=>by simp [w64_id] at k) (fun _=>h)
def ln (ow:Key→List ByteArray) (s:Key):Jv:=⟨s,ow s⟩
def mk (e:Key×List ByteArray):Jv:=⟨e.1,e.2⟩
theorem lines_b {m:Map} (h:MapOk m) {x:List (ByteArray×Int)} (hx:AtIs m x) {Q:List Jv→Prop} (hq:∀ L,Ks (owners m) L→L.length≤2001*m.Objects.length→Q (L.map (ln (owners m)))):Jd.F ⟨m,x⟩ Q:=by
 have hl:=h.few
 refine W.up2 m.Objects.length (fun i t=>MapIs (own m i) t∧t.length≤2001*i) ⟨⟨fun s=>by simp [mget,own],fun s=>by simp [own],by simp⟩,by simp⟩ (fun K i t hi hI hK=>?_)
 obtain ⟨hI,htl⟩:=hI
 refine W.dec_i (fun hlt=>W.req_i ⟨by omega,hlt⟩ ?_) (fun hge=>?_)
 ·have hi':i<m.Objects.length:=by
   have:(i:Int)<(m.Objects.length:Int):=hlt
   omega
  have hc1:=(h.each i hi').count.1
  have skip:(¬ ((ob m i).Kind=2∨(ob m i).Kind=3)∨¬ SoundP m (ob m i))→Jd.c3 (i:Int) K t Q:=fun hs=>by
   show K t (w64 ((i:Int)+1)) Q
   rw [w64_succ (by omega)]
   refine hK hi' _ ⟨?_,by omega⟩
   have e:own m (i+1)=own m i:=by
    funext s
    rw [own_succ,if_neg,List.append_nil]
    rintro ⟨h1,h2⟩
    rcases hs with hs | hs
    ·unfold sides at h2;rw [if_neg hs] at h2;cases h2
    ·exact hs h1
   rw [e];exact hI
  show W.bind (W.ite (!(((ob m i).Kind != (2:Int))&&((ob m i).Kind != (3:Int)))) (wh.F ⟨m,x⟩ (ob m i)) (W.ret false)) _ Q
  refine W.bind_i ?_
  by_cases hk:(ob m i).Kind=2∨(ob m i).Kind=3
  ·have ek:(((ob m i).Kind != (2:Int))&&((ob m i).Kind != (3:Int)))=false:=by rcases hk with e | e<;>rw [e]<;>rfl
   have ek':(((rd zObject (Va.mk m x).m.Objects (i:Int)).Kind != (2:Int))&&((rd zObject (Va.mk m x).m.Objects (i:Int)).Kind != (3:Int)))=false:=ek
   rw [ek]
   refine nodes_b h hx hc1 fun b hb=>?_
   refine W.ite_i (fun hf=>skip (.inr fun hs=>?_)) (fun hf=>?_)
   ·rw [hb.2 hs] at hf;cases hf
   ·rw [Bool.false_or,Bool.not_eq_false'] at hf
    refine lines_l3_b h hi' (hb.1 hf) hk hI htl fun t' ht' hl'=>?_
    show K t' (w64 ((i:Int)+1)) Q
    rw [w64_succ (by omega)]
    exact hK hi' _ ⟨ht',hl'⟩
  ·have ek:(((ob m i).Kind != (2:Int))&&((ob m i).Kind != (3:Int)))=true:=by
    rw [Bool.and_eq_true,bne_iff_ne,bne_iff_ne];omega
   have ek':(((rd zObject (Va.mk m x).m.Objects (i:Int)).Kind != (2:Int))&&((rd zObject (Va.mk m x).m.Objects (i:Int)).Kind != (3:Int)))=true:=ek
   rw [ek]
   exact skip (.inl hk)
 ·have hie:i=m.Objects.length:=by
   have:¬ (i:Int)<(m.Objects.length:Int):=hge
   omega
  subst hie
  refine W.req_i ⟨by omega,by omega,by omega⟩ ?_
  refine W.loop2 (fun (a:List Jv) (r:List (Key×List ByteArray))=>(a++r.map mk).Perm (t.map mk)) (fun a r=>r.length) (fun K2 a r hP hK2=>?_) (by simp)
  have hal:a.length+r.length=t.length:=by
   have:=hP.length_eq
   simpa using this
  refine ⟨fun hr=>?_,fun A e B hr=>?_⟩
  ·subst hr
   rw [List.map_nil,List.append_nil] at hP
   have hnd:(a.map (·.nodes)).Nodup:=by
    have:(a.map (·.nodes)).Perm ((t.map mk).map (·.nodes)):=hP.map _
    rw [this.nodup_iff,List.map_map]
    exact hI.nodup
   refine W.bind_i ⟨by omega,cf,cf_ok a,fun u v _ _=>cmpl_b rfl,fun ys hys hp=>?_⟩
   have hyn:(ys.map (·.nodes)).Nodup:=((hys.map _).nodup_iff).2 hnd
   have hrise:(ys.map (·.nodes)).Pairwise kLt:=by
    rw [List.pairwise_map]
    have h1:ys.Pairwise (fun x y=>x.nodes≠y.nodes):=by
     have:=hyn
     unfold List.Nodup at this
     rwa [List.pairwise_map] at this
    refine (hp.and h1).imp fun {u v} hh=>?_
    rw [cf_neg] at hh
    rcases kLt.tri u.nodes v.nodes with k | k | k
    ·exact k
    ·exact absurd k hh.2
    ·exact absurd k hh.1
   have hmem:∀ b,b∈ys↔∃ e∈t,b=mk e:=fun b=>by
    rw [hys.mem_iff,hP.mem_iff,List.mem_map]
    exact ⟨fun ⟨e,h1,h2⟩=>⟨e,h1,h2.symm⟩,fun ⟨e,h1,h2⟩=>⟨e,h1,h2.symm⟩⟩
   have hyl:ys.length=t.length:=by rw [hys.length_eq];simpa using hal
   have:=hq (ys.map (·.nodes)) ⟨hrise,fun s=>?_⟩ (by rw [List.length_map];omega)
   ·have e:(ys.map (·.nodes)).map (ln (owners m))=ys:=by
     rw [List.map_map]
     refine (List.map_congr_left (g:=id) fun b hb=>?_).trans (List.map_id _)
     obtain ⟨e,he,rfl⟩:=(hmem b).1 hb
     show (⟨e.1,own m m.Objects.length e.1⟩:Jv)=⟨e.1,e.2⟩
     rw [← hI.get,mget_mem hI.nodup e he]
    rw [e] at this
    exact this
   ·rw [← hI.mem,List.mem_map,List.mem_map]
    constructor
    ·rintro ⟨b,hb,rfl⟩
     obtain ⟨e,he,rfl⟩:=(hmem b).1 hb
     exact ⟨e,he,rfl⟩
    ·rintro ⟨e,he,rfl⟩
     exact ⟨mk e,(hmem _).2 ⟨e,he,rfl⟩,rfl⟩
  ·subst hr
   refine W.req_i rfl (W.req_i ?_ ?_)
   ·simp at hal ⊢;omega
   ·refine hK2 _ _ ?_ (by simp)
    refine List.Perm.trans ?_ hP
    rw [List.append_assoc]
    refine List.Perm.append_left a ?_
    rw [List.map_append,List.map_append,List.map_cons]
    show (mk e::(A.map mk++B.map mk)).Perm _
    exact List.perm_middle.symm
noncomputable def sg (m:Map) (s:Key):Segment:=⟨pos m s.1,pos m s.2⟩
theorem pos_near {m:Map} (h:MapOk m) {id:ByteArray} (hn:Nd m id):Near (pos m id):=by
 obtain ⟨j,hj,hk⟩:=hn
 rw [pos_eq h hj]
 have:=(h.each j hj.1).at_.1 hk
 unfold Near;omega
theorem ks_nodes {m:Map} {L:List Key} (hL:Ks (owners m) L) {s:Key} (hs:s∈L):Nd m s.1∧Nd m s.2:=by
 have:=(hL.mem s).1 hs
 obtain ⟨a,ha⟩:=List.exists_mem_of_ne_nil _ this
 obtain ⟨i,hi,_,h1,h2⟩:=own_mem.1 ha
 obtain ⟨⟨i,hi,e⟩,⟨j,hj,e2⟩⟩:=sides_refs h2
 rw [e,e2]
 exact ⟨h1 i hi,h1 j hj⟩
theorem point_b {m:Map} (h:MapOk m) {x:List (ByteArray×Int)} (hx:AtIs m x) {id:ByteArray} (hn:Nd m id) {Q:Point→Prop} (hq:Q (pos m id)):qh.F ⟨m,x⟩ id Q:=by
 obtain ⟨j,hj,_⟩:=hn
 rw [pos_eq h hj] at hq
 unfold qh.F
 rw [show mget id (0:Int) (Va.mk m x).at_=(j:Int) from hx.get _ j hj]
 exact W.req_i ⟨by omega,by have:=hj.1;show (j:Int)<(m.Objects.length:Int);omega⟩ hq
theorem rd_map {α β:Type} {z:β} {f:α→β} {L:List α} {i:Nat} (hi:i<L.length):rd z (L.map f) (i:Int)=f L[i]:=by
 rw [rd_nat (by simpa using hi)];simp
theorem segments_b {m:Map} (h:MapOk m) {x:List (ByteArray×Int)} (hx:AtIs m x) {L:List Key} (hL:Ks (owners m) L) (hl:L.length≤2001*m.Objects.length) {Q:List Segment→Prop} (hq:Q (L.map (sg m))):Jj.F ⟨m,x⟩ (L.map (ln (owners m))) Q:=by
 have hf:=h.few
 refine W.up2 L.length (fun i y=>y=(L.take i).map (sg m)) rfl (fun K i y hi hI hK=>?_)
 subst hI
 refine W.dec_i (fun hlt=>W.req_i ⟨by omega,hlt⟩ ?_) (fun hge=>?_)
 ·rw [List.length_map] at hlt
  have hi':i<L.length:=by omega
  rw [rd_map hi']
  have hm:=List.getElem_mem hi'
  refine W.bind_i (point_b h hx (ks_nodes hL hm).1 (W.bind_i (point_b h hx (ks_nodes hL hm).2 (W.req_i ?_ ?_))))
  ·simp;omega
  ·rw [w64_succ (by omega)]
   refine hK hi' _ ?_
   rw [List.take_add_one,List.getElem?_eq_getElem hi',List.map_append]
   rfl
 ·rw [List.length_map] at hge
  have:i=L.length:=by omega
  subst this
  rw [List.take_length]
  exact hq
end Go.Gp.Gb
end
section
set_option linter.unusedVariables false
set_option linter.unusedSimpArgs false
set_option maxRecDepth 100000
namespace Go.Gp.Gb
open Go.Proofs
def ref13_segment.F (b1:Jr):W Segment:=W.ret (⟨b1.P,b1.Q⟩:Segment)
def ref13_Free.c1:W Bool:=W.ret true
def ref13_Free.l1 (s1:Segment) (r3:(List Jr)) (K1:W Bool) (A1:Int→W Bool) (i6:Int):W Bool:=W.ite (decide (i6<(r3.length:Int))) (W.req (0≤i6∧i6<(r3.length:Int)) (W.bind (ref13_segment.F (rd Je r3 i6)) (fun r12=>W.bind (wc.F r12 s1) (fun r13=>W.ite (((r13 != (0:Int))&&(r13 != (1:Int)))&&(r13 != (4:Int))) (W.ret false) (A1 (w64 (i6+(1:Int)))))))) (K1)
def ref13_Free.F (m1:Map) (s1:Segment):W Bool:=W.bind (qy.F m1) (fun r1=>W.bind (W.ite (!(!r1)) (zz.F s1) (W.ret false)) (fun r2=>W.ite ((!r1)||(!r2)) (W.ret false) (W.bind (Vf.F m1) (fun r3=>W.ex fun n=>W.iter1 (ref13_Free.l1 s1 r3 (ref13_Free.c1)) n (0:Int)))))
end Go.Gp.Gb
end
section
set_option linter.unusedVariables false
set_option linter.unusedSimpArgs false
set_option maxRecDepth 10000
namespace Go.Gp.Gb
open Geo
theorem fit_of {m:Map} (h:ok_Map m):MapFit m:=by
 have:∀ i:Nat,i<m.Objects.length→ob m i∈m.Objects:=fun i hi=>by unfold ob;rw [rd_nat hi];exact List.getElem_mem hi
 refine ⟨h.1,fun i hi=>?_⟩
 obtain ⟨h1,h2,h3,h4,h5⟩:=h.2 _ (this i hi)
 refine ⟨h1,h4.1,fun j hj=>?_,h5.1,fun j hj=>?_⟩
 ·unfold rs;rw [rd_nat hj];exact h4.2 _ (List.getElem_mem hj)
 ·rw [rd_nat hj];exact (h5.2 _ (List.getElem_mem hj)).1
structure FewP (m:Map) (most:Int):Prop where
 few:(m.Objects.length:Int)≤most
 refs:∀ i:Nat,i<m.Objects.length→(ob m i).Refs.length≤12
theorem ref13_Few_b {m:Map} (hf:MapFit m) {most:Int} (hm:most≤1000) {Q:Bool→Prop} (hq:∀ b,(b=true→FewP m most)→Q b):Vn.F m most Q:=by
 have bad:Q false:=hq false (fun k=>by cases k)
 refine W.dec_i (fun _=>bad) (fun hlen=>?_)
 refine W.up1 m.Objects.length (fun i=>∀ k:Nat,k<i→(ob m k).Refs.length≤12) (fun k hk=>by omega) (fun K i hi hI hk=>?_)
 refine W.dec_i (fun hlt=>W.req_i ⟨by omega,hlt⟩ ?_) (fun hge=>hq true fun _=>⟨by omega,fun k hk=>hI k (by omega)⟩)
 have hi':i<m.Objects.length:=by omega
 show W.ite ((decide ((12:Int)<((ob m i).Refs.length:Int))||_)||_) _ _ Q
 refine W.ite_i (fun _=>bad) (fun hb=>?_)
 rw [Bool.or_eq_false_iff,Bool.or_eq_false_iff,decide_eq_false_iff_not,decide_eq_false_iff_not] at hb
 have hr:(ob m i).Refs.length≤12:=by omega
 have ht:((ob m i).Tags.length:Int)≤20:=by
  have:¬ (20:Int)<((ob m i).Tags.length:Int):=hb.1.2
  omega
 refine W.up1 (ob m i).Refs.length (fun _=>True) trivial (fun K2 k hk' _ hK2=>?_)
 refine W.dec_i (fun hlt2=>W.req_i ⟨by omega,hlt2⟩ (W.ite_i (fun _=>bad) (fun _=>?_))) (fun _=>?_)
 ·have:(k:Int)<((ob m i).Refs.length:Int):=hlt2
  rw [w64_succ (by omega)]
  exact hK2 (by omega) trivial
 ·refine W.up1 (ob m i).Tags.length (fun _=>True) trivial (fun K3 k hk' _ hK3=>?_)
  refine W.dec_i (fun hlt2=>W.req_i ⟨by omega,hlt2⟩ (W.ite_i (fun _=>bad) (fun _=>?_))) (fun _=>?_)
  ·have:(k:Int)<((ob m i).Tags.length:Int):=hlt2
   rw [w64_succ (by omega)]
   exact hK3 (by omega) trivial
  ·show K (w64 ((i:Int)+1)) Q
   rw [w64_succ (by omega)]
   refine hk hi' fun k hk=>?_
   by_cases e:k=i
   ·subst e;exact hr
   ·exact hI k (by omega)
def Okn (n:Int):Prop:=n=0∨n=1∨n=4
def FreeP (m:Map) (s:Segment):Prop:=MapOk m∧NearS s∧∀ L,Ks (owners m) L→∀ k∈L,∀ n,MeetsR (sg m k) s n→Okn n
theorem ref13_Free_b {m:Map} (hf:MapFit m) {s:Segment} {Q:Bool→Prop} (hq:∀ b,(b=true↔FreeP m s)→Q b):ref13_Free.F m s Q:=by
 refine W.bind_i (ref13_Valid_b hf fun b1 h1=>W.bind_i ?_)
 cases b1 with
 | false=>exact hq false (iff_of_false (by simp) fun k=>by have:=h1.2 k.1;cases this)
 | true=>
  have h:=h1.1 rfl
  have hfew:=h.few
  refine ref03_Segment_b fun b2 h2=>?_
  cases b2 with
  | false=>exact hq false (iff_of_false (by simp) fun k=>by have:=h2.2 k.2.1;cases this)
  | true=>
   have hn:=h2.1 rfl
   refine W.bind_i (ref13_Borders_b hf (fun k=>absurd h k) fun _ L hL hl=>?_)
   refine W.up1 L.length (fun i=>∀ k∈L.take i,∀ n,MeetsR (sg m k) s n→Okn n) (by simp) (fun K i hi hI hK=>?_)
   refine W.dec_i (fun hlt=>W.req_i ⟨by omega,hlt⟩ ?_) (fun hge=>?_)
   ·rw [List.length_map] at hlt
    have hi':i<L.length:=by omega
    rw [rd_map hi']
    refine W.bind_i (W.bind_i (ref03_Meets_b fun n hn'=>?_))
    change MeetsR (sg m L[i]) s n at hn'
    refine W.ite_i (fun hb=>hq false (iff_of_false (by simp) fun k=>?_)) (fun hb=>?_)
    ·have:=k.2.2 L hL _ (List.getElem_mem hi') n hn'
     simp only [Bool.and_eq_true,bne_iff_ne] at hb
     unfold Okn at this;omega
    ·rw [w64_succ (by omega)]
     refine hK hi' fun k hk n' hn2=>?_
     rw [List.take_add_one,List.getElem?_eq_getElem hi'] at hk
     rcases List.mem_append.1 hk with hk | hk
     ·exact hI k hk n' hn2
     ·simp only [Option.toList_some,List.mem_singleton] at hk
      subst hk
      rw [hn2.unique hn']
      rw [← Bool.not_eq_true] at hb
      simp only [Bool.and_eq_true,bne_iff_ne] at hb
      unfold Okn;omega
   ·rw [List.length_map] at hge
    have:i=L.length:=by omega
    subst this
    rw [List.take_length] at hI
    refine hq true (iff_of_true rfl ⟨h,hn,fun L' hL'=>?_⟩)
    rw [hL'.unique hL];exact hI
theorem meets_range {s t:Segment} {n:Int} (h:MeetsR s t n):0≤n∧n≤5:=by cases h<;>decide
theorem minmax {s:Segment}:((decide ((iMin [s.A.X,s.A.Y,s.B.X,s.B.Y])<(-2097152:Int)))||(decide ((2097152:Int)<(iMax [s.A.X,s.A.Y,s.B.X,s.B.Y]))))=true↔¬ NearS s:=by
 rw [Bool.or_eq_true,decide_eq_true_eq,decide_eq_true_eq]
 unfold NearS Near
 simp only [iMin,iMax,List.foldl_cons,List.foldl_nil]
 split<;>split<;>split<;>split<;>split<;>split<;>omega
theorem border_Free_b {m:Map} (hf:MapFit m) {s:Segment} {Q:Bool→Prop} (hq:∀ b,(b=true↔FreeP m s)→Q b):wt.F m s Q:=by
 refine W.bind_i (border_of_b hf (fun hno=>?_) (fun h x hx=>?_))
 ·exact W.ite_i (fun _=>hq false (iff_of_false (by simp) fun k=>hno k.1)) (fun k=>by simp at k)
 ·have hfew:=h.few
  refine W.ite_i (fun k=>?_) (fun k=>?_)
  ·rw [Bool.not_true,Bool.false_or,minmax] at k
   exact hq false (iff_of_false (by simp) fun hh=>k hh.2.1)
  ·rw [Bool.not_true,Bool.false_or,← Bool.not_eq_true,minmax,Classical.not_not] at k
   refine W.bind_i (lines_b h hx fun L hL hl=>W.bind_i (segments_b h hx hL hl (W.bind_i (W.bind_i ?_))))
   have main:∀ b:Int,((0≤b)↔¬ ∀ k∈L,∀ n,MeetsR (sg m k) s n→Okn n)→Q (!(decide ((0:Int)≤b))):=fun b hb=>hq _ (by
    rw [Bool.not_eq_true',decide_eq_false_iff_not,hb,Classical.not_not]
    constructor
    ·exact fun hh=>⟨h,k,fun L' hL'=>by rw [hL'.unique hL];exact hh⟩
    ·exact fun hh=>hh.2.2 L hL)
   refine W.up1 L.length (fun i=>∀ k∈L.take i,∀ n,MeetsR (sg m k) s n→Okn n) (by simp) (fun K i hi hI hK=>?_)
   refine W.dec_i (fun hlt=>W.req_i ⟨by omega,hlt⟩ ?_) (fun hge=>?_)
   ·rw [List.length_map] at hlt
    have hi':i<L.length:=by omega
    rw [rd_map hi']
    refine W.bind_i (W.bind_i (meets_b fun n hn'=>?_))
    have hr:=meets_range hn'
    have yes:¬ Okn n→(fun r5=>W.ite r5 (W.ret (i:Int)) (K (w64 ((i:Int)+1))) (fun r=>Q (!(decide ((0:Int)≤r))))) true:=fun hno=>main _ (iff_of_true (by omega) fun hh=>hno (hh _ (List.getElem_mem hi') n hn'))
    have no:Okn n→(fun r5=>W.ite r5 (W.ret (i:Int)) (K (w64 ((i:Int)+1))) (fun r=>Q (!(decide ((0:Int)≤r))))) false:=fun hok=>by
     show K (w64 ((i:Int)+1)) _
     rw [w64_succ (by omega)]
     refine hK hi' fun k hk n' hn2=>?_
     rw [List.take_add_one,List.getElem?_eq_getElem hi'] at hk
     rcases List.mem_append.1 hk with hk | hk
     ·exact hI k hk n' hn2
     ·simp only [Option.toList_some,List.mem_singleton] at hk
      subst hk
      rw [hn2.unique hn'];exact hok
    refine W.ite_i (fun h2=>?_) (fun h2=>W.ite_i (fun h3=>?_) (fun h3=>?_))
    ·rw [h2];rw [beq_iff_eq] at h2;exact yes (by unfold Okn;omega)
    ·rw [h3];rw [beq_iff_eq] at h3;exact yes (by unfold Okn;omega)
    ·rw [beq_eq_false_iff_ne] at h2 h3
     by_cases h5:n=5
     ·rw [h5,beq_self_eq_true];exact yes (by unfold Okn;omega)
     ·rw [show (n==5)=false by rw [beq_eq_false_iff_ne];exact h5];exact no (by unfold Okn;omega)
   ·rw [List.length_map] at hge
    have:i=L.length:=by omega
    subst this
    rw [List.take_length] at hI
    exact main _ (iff_of_false (by decide) fun k=>k hI)
abbrev Ids:=List ByteArray
def lLt:Ids→Ids→Prop
 | [],[]=>False
 | [],_::_=>True
 | _::_,[]=>False
 | x::a,y::b=>sLt x y=true∨x=y∧lLt a b
theorem lLt_irr:∀ a:Ids,¬ lLt a a
 | []=>fun h=>h
 | x::a=>fun h=>by
  rcases h with h | ⟨_,h⟩
  ·rw [sLt_irr] at h;cases h
  ·exact lLt_irr a h
theorem lLt_trans:∀ a b c:Ids,lLt a b→lLt b c→lLt a c
 | [],[],_,h,_=>h.elim
 | [],_::_,[],_,h=>h.elim
 | [],_::_,_::_,_,_=>trivial
 | _::_,[],_,h,_=>h.elim
 | _::_,_::_,[],_,h=>h.elim
 | x::a,y::b,z::c,h,k=>by
  rcases h with h | ⟨e,h⟩<;>rcases k with k | ⟨e2,k⟩
  ·exact .inl (sLt_trans h k)
  ·exact .inl (e2 ▸ h)
  ·exact .inl (e ▸ k)
  ·exact .inr ⟨e.trans e2,lLt_trans a b c h k⟩
theorem lLt_tri:∀ a b:Ids,lLt a b∨a=b∨lLt b a
 | [],[]=>.inr (.inl rfl)
 | [],_::_=>.inl trivial
 | _::_,[]=>.inr (.inr trivial)
 | x::a,y::b=>by
  rcases sLt_tri x y with h | h | h
  ·exact .inl (.inl h)
  ·rcases lLt_tri a b with k | k | k
   ·exact .inl (.inr ⟨h,k⟩)
   ·exact .inr (.inl (by rw [h,k]))
   ·exact .inr (.inr (.inr ⟨h.symm,k⟩))
  ·exact .inr (.inr (.inl h))
theorem lLt_pre:∀ P a b:Ids,lLt (P++a) (P++b)↔lLt a b
 | [],a,b=>Iff.rfl
 | x::P,a,b=>by
  show (sLt x x=true∨x=x∧lLt (P++a) (P++b))↔_
  rw [sLt_irr,lLt_pre P a b];simp
theorem before_b {a b:Ids} (ha:a.length≤1000000) (hb:b.length≤1000000) {Q:Bool→Prop} (hq:∀ r,(r=true↔lLt a b)→Q r):qp.F a b Q:=by
 refine W.up1 a.length (fun i=>∃ P A B,a=P++A∧b=P++B∧P.length=i) ⟨[],a,b,rfl,rfl,rfl⟩ (fun K i hi hI hK=>?_)
 obtain ⟨P,A,B,rfl,rfl,rfl⟩:=hI
 have ea:(((P++A).length:Nat):Int)=P.length+A.length:=by simp
 have eb:(((P++B).length:Nat):Int)=P.length+B.length:=by simp
 have r0:∀ (x:ByteArray) (l:Ids),rd (⟨#[]⟩:ByteArray) (P++x::l) (P.length:Int)=x:=fun x l=>rd_mid rfl
 refine W.ite_i (fun h=>?_) (fun h=>hq _ ?_)
 ·rw [Bool.and_eq_true,decide_eq_true_eq,decide_eq_true_eq] at h
  match A,B with
  | [],_=>simp at h
  | _::_,[]=>simp at h
  | x::A,y::B=>
   rw [r0,r0]
   refine W.req_i ⟨by omega,h.1⟩ (W.req_i ⟨by omega,h.2⟩ (W.ite_i (fun k=>?_) (fun k=>?_)))
   ·refine W.req_i ⟨by omega,h.1⟩ (W.req_i ⟨by omega,h.2⟩ (hq _ ?_))
    rw [Bool.not_eq_true',sEq_false] at k
    rw [lLt_pre]
    show _↔(sLt x y=true∨x=y∧lLt A B)
    exact ⟨.inl,fun h=>h.elim id fun h=>absurd h.1 k⟩
   ·rw [Bool.not_eq_false',sEq_eq] at k
    subst k
    rw [w64_succ (by simp at ha;omega)]
    exact hK (by simp) ⟨P++[x],A,B,by simp,by simp,by simp⟩
 ·rw [lLt_pre,decide_eq_true_eq]
  rw [← Bool.not_eq_true,Bool.and_eq_true,decide_eq_true_eq,decide_eq_true_eq] at h
  match A,B with
  | [],[]=>simp [lLt]
  | [],y::B=>simp [lLt];omega
  | x::A,[]=>simp [lLt];omega
  | x::A,y::B=>exfalso;apply h;simp;omega
def viol (ids:Ids):Violation:=⟨(⟨#[]⟩:ByteArray),2,ids⟩
open Classical in
noncomputable def pr (a b:ByteArray):Ids:=if a=b then [a] else [sMin a b,sMax a b]
def ShareP (s t:Key):Prop:=s.1=t.1∨s.1=t.2∨s.2=t.1∨s.2=t.2
def OrdN (n:Int) (s t:Key):Prop:=n=0∨n=1∧ShareP s t
def X1 (m:Map) (s t:Key) (ids:Ids):Prop:=(∃ n,MeetsR (sg m s) (sg m t) n∧¬ OrdN n s t)∧∃ a,a∈owners m s∧∃ b,b∈owners m t∧ids=pr a b
def X2 (m:Map) (s t:Key) (ids:Ids):Prop:=∃ a,(a=s.1∨a=s.2)∧∃ b,(b=t.1∨b=t.2)∧a≠b∧pos m a=pos m b∧ids=pr a b
end Go.Gp.Gb
end
section
set_option linter.unusedVariables false
set_option linter.unusedSimpArgs false
set_option maxRecDepth 10000
set_option linter.unusedSectionVars false
namespace Go.Gp.Gb
open Geo
theorem sMin_lt {a b:ByteArray} (h:sLt a b=true):sMin a b=a∧sMax a b=b∧sMin b a=a∧sMax b a=b:=by
 unfold sMin sMax
 have h2:=sLt_asymm h
 have h3:sEq b a=false:=by rw [sEq_false];exact fun e=>sLt_ne h e.symm
 simp [h,h2,h3]
theorem pr_comm (a b:ByteArray):pr a b=pr b a:=by
 unfold pr
 rcases sLt_tri a b with h | h | h
 ·rw [if_neg (sLt_ne h),if_neg (fun e=>sLt_ne h e.symm)]
  have:=sMin_lt h
  rw [this.1,this.2.1,this.2.2.1,this.2.2.2]
 ·subst h;rfl
 ·rw [if_neg (sLt_ne h),if_neg (fun e=>sLt_ne h e.symm)]
  have:=sMin_lt h
  rw [this.1,this.2.1,this.2.2.1,this.2.2.2]
theorem ShareP.symm {s t:Key} (h:ShareP s t):ShareP t s:=by
 unfold ShareP at *
 rcases h with h | h | h | h
 ·exact .inl h.symm
 ·exact .inr (.inr (.inl h.symm))
 ·exact .inr (.inl h.symm)
 ·exact .inr (.inr (.inr h.symm))
theorem OrdN.symm {n:Int} {s t:Key} (h:OrdN n s t):OrdN n t s:=h.imp id fun h=>⟨h.1,h.2.symm⟩
theorem X1.symm {m:Map} {s t:Key} {ids:Ids} (h:X1 m s t ids):X1 m t s ids:=by
 obtain ⟨⟨n,hn,ho⟩,a,ha,b,hb,e⟩:=h
 exact ⟨⟨n,hn.symm,fun k=>ho k.symm⟩,b,hb,a,ha,e.trans (pr_comm a b)⟩
theorem X2.symm {m:Map} {s t:Key} {ids:Ids} (h:X2 m s t ids):X2 m t s ids:=by
 obtain ⟨a,ha,b,hb,hne,hp,e⟩:=h
 exact ⟨b,hb,a,ha,fun k=>hne k.symm,hp.symm,e.trans (pr_comm a b)⟩
def BadI (m:Map) (ids:Ids):Prop:=∃ s t,owners m s≠[]∧owners m t≠[]∧(s≠t∧X1 m s t ids∨X2 m s t ids)
abbrev kx (L:List Key) (i:Nat):Key:=rd kz L (i:Int)
theorem kx_mem {L:List Key} {i:Nat} (h:i<L.length):kx L i∈L:=by unfold kx;rw [rd_nat h];exact List.getElem_mem h
theorem rd_mapk {β:Type} {z:β} {f:Key→β} {L:List Key} {i:Nat} (hi:i<L.length):rd z (L.map f) (i:Int)=f (kx L i):=by
 rw [rd_map hi];unfold kx;rw [rd_nat hi]
section
variable {m : Map} {L : List Key} (hL : Ks (owners m) L) (hf : m.Objects.length ≤ 24) (hl : L.length ≤ 48024)
include hL hf hl
omit hf hl in
theorem bad_iff {ids:Ids}:BadI m ids↔∃ i,i<L.length∧((∃ k,k<i∧X1 m (kx L i) (kx L k) ids)∨∃ k,k≤i∧X2 m (kx L i) (kx L k) ids):=by
 have nd:∀ i k:Nat,i<k→k<L.length→kx L i≠kx L k:=fun i k hik hk=>by
  unfold kx
  rw [rd_nat hk,rd_nat (by omega)]
  exact (List.pairwise_iff_getElem.1 hL.rise i k (by omega) hk hik).ne
 constructor
 ·rintro ⟨s,t,hs,ht,h⟩
  obtain ⟨i,hi,rfl⟩:=List.mem_iff_getElem.1 ((hL.mem s).2 hs)
  obtain ⟨k,hk,rfl⟩:=List.mem_iff_getElem.1 ((hL.mem t).2 ht)
  have ei:L[i]=kx L i:=(rd_nat hi).symm
  have ek:L[k]=kx L k:=(rd_nat hk).symm
  rw [ei,ek] at h
  rcases h with ⟨hne,h⟩ | h
  ·rcases Nat.lt_trichotomy i k with c | c | c
   ·exact ⟨k,hk,.inl ⟨i,c,h.symm⟩⟩
   ·subst c;exact absurd rfl hne
   ·exact ⟨i,hi,.inl ⟨k,c,h⟩⟩
  ·rcases Nat.lt_trichotomy i k with c | c | c
   ·exact ⟨k,hk,.inr ⟨i,by omega,h.symm⟩⟩
   ·subst c;exact ⟨i,hi,.inr ⟨i,by omega,h⟩⟩
   ·exact ⟨i,hi,.inr ⟨k,by omega,h⟩⟩
 ·rintro ⟨i,hi,⟨k,hk,h⟩ | ⟨k,hk,h⟩⟩
  ·exact ⟨_,_,(hL.mem _).1 (kx_mem hi),(hL.mem _).1 (kx_mem (by omega)),.inl ⟨(nd k i hk hi).symm,h⟩⟩
  ·exact ⟨_,_,(hL.mem _).1 (kx_mem hi),(hL.mem _).1 (kx_mem (by omega)),.inr h⟩
end
end Go.Gp.Gb
end
