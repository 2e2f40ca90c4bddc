/- A part of the proof: see the last part. -/
import Derived.Test.YtfophhmfbofjiaaGreatP5x02
section
set_option linter.unusedVariables false
set_option linter.unusedSimpArgs false
set_option maxRecDepth 100000
namespace Go.Gp.Gb
open Go.Proofs
def ref13_Before.c1 (a1:(List BA)) (b1:(List BA)):W Bool:=W.ret (decide ((a1.length:Int)<(b1.length:Int)))
def ref13_Before.l1 (a1:(List BA)) (b1:(List BA)) (K1:W Bool) (A1:Int→W Bool) (i6:Int):W Bool:=W.ite ((decide (i6<(a1.length:Int)))&&(decide (i6<(b1.length:Int)))) (W.req (0≤i6∧i6<(a1.length:Int)) (W.req (0≤i6∧i6<(b1.length:Int)) (W.ite (!(sEq (rd (⟨#[]⟩:BA) a1 i6) (rd (⟨#[]⟩:BA) b1 i6))) (W.req (0≤i6∧i6<(a1.length:Int)) (W.req (0≤i6∧i6<(b1.length:Int)) (W.ret (sLt (rd (⟨#[]⟩:BA) a1 i6) (rd (⟨#[]⟩:BA) b1 i6))))) (A1 (w64 (i6+(1:Int))))))) (K1)
def ref13_Before.F (a1:(List BA)) (b1:(List BA)):W Bool:=W.ex fun n=>W.iter1 (ref13_Before.l1 a1 b1 (ref13_Before.c1 a1 b1)) n (0:Int)
theorem ref13_Before.ok {a1:(List BA)} {b1:(List BA)} {Q:Bool→Prop} (hF:ref13_Before.F a1 b1 Q):Con Tryz.prog 21 [.tv (kSlice kStr) a1,.tv (kSlice kStr) b1] [] (fun ta rs'=>∃ (r:Bool),Q r∧ta=.tv kBool r∧rs'=[]):=by
 refine Con.i Tryz.func21 Tryz.ntmps21 R R (fun C=>?_)
 unfold ref13_Before.F at hF
 refine At.seq (At.region (At.d R R R R (jd (x:=(.tv kBool false)) (jl _)) ?_))
 refine At.done (At.vf ?_)
 refine At.cut (fun rs L=>∃ _:Unit,ref13_Before.c1 a1 b1 Q∧rs=[]∧L=mkL [(0,(.tv (kSlice kStr) a1)),(1,(.tv (kSlice kStr) b1))]) ?_ ?_
 ·refine At.seq (At.region (At.d R R R R (jd (x:=(.tv (kInt .i64) (0:Int))) (ji _ _)) ?_))
  refine At.done (At.vf (At.block ?_))
  obtain ⟨n1,hF⟩:=hF
  refine At.w [] R [(0,(.tv (kSlice kStr) a1)),(1,(.tv (kSlice kStr) b1)),(5,(.tv (kInt .i64) (0:Int)))] ⟨R,R,R,trivial⟩ ?_
  refine At.loop (fun m rs L=>∃ (i6:Int),W.iter1 (ref13_Before.l1 a1 b1 (ref13_Before.c1 a1 b1)) m i6 Q∧rs=[]∧L=mkL [(0,(.tv (kSlice kStr) a1)),(1,(.tv (kSlice kStr) b1)),(5,(.tv (kInt .i64) i6))]) ?_ ?_ (m:=n1) ⟨(0:Int),hF,R,R⟩
  ·rintro rs L ⟨_,hF,_,_⟩;exact hF
  ·rintro m1 _ _ ⟨i6,hF,rfl,rfl⟩
   replace hF:=W.iter1_s hF
   unfold ref13_Before.l1 at hF
   refine At.seq (At.seq (At.region (At.d R R R R (jb (x:=(.tv (kInt .i64) i6)) (ja R)) ?_)))
   refine At.d R R R R (jb (x:=(.tv (kSlice kStr) a1)) (ja R)) ?_
   refine At.d R R R R (jt (ja R) Tryz.underlying41) ?_
   refine At.d R R R R (jk (ja R) (ja R) vc) ?_
   refine At.d R R R R (jb (x:=(.tv kBool (decide (i6<(a1.length:Int))))) (ja R)) ?_
   refine At.vh R R R R (jv R) R (fun hg17=>(jb (x:=(.tv (kInt .i64) i6)) (ja R))) ?_
   refine At.vh R R R R (jv R) R (fun hg18=>(jb (x:=(.tv (kSlice kStr) b1)) (ja R))) ?_
   refine At.vh R R R R (jv R) R (fun hg19=>(jt (jh R hg19) Tryz.underlying41)) ?_
   refine At.vh R R R R (jv R) R (fun hg20=>(jk (jh R hg20) (jh R hg20) vc)) ?_
   refine At.d R R R R (jm (ja R) (ja R) (jl _) pick_and) ?_
   refine At.done (At.vf ?_)
   refine At.cond (ja R) (fun hb9=>?_) (fun hb9=>?_)
   ·replace hF:=W.ite_t hb9 hF
    refine At.skip (At.vf (At.seq (At.block (At.seq ?_))))
    refine At.draw mixed [] R [] (fun φ w hgd=>?_)
    obtain ⟨hq17,hF⟩:=hF
    obtain ⟨hq18,hF⟩:=hF
    refine AtH.take [] hgd 0 R R R R (D':=#[Y,N,N,N,N,N,N,N,N]) (by kernel_rfl) (fun _ _ _ _ h=>h) R (jb (x:=(.tv (kSlice kStr) a1)) (ja R)) ?_
    refine AtH.take [] hgd 1 R R R R (D':=#[Y,Y,N,N,N,N,N,N,N]) (by kernel_rfl) (fun _ _ _ _ h=>h) R (jb (x:=(.tv (kInt .i64) i6)) (ja R)) ?_
    refine AtH.take [] hgd 2 R R R R (D':=#[Y,Y,Y,N,N,N,N,N,N]) (by kernel_rfl) (fun _ _ _ _ h=>h) R (vd (⟨#[]⟩:BA) (ja R) (ja R) Tryz.underlying41 ty_9 hq17) ?_
    refine AtH.take [] hgd 3 R R R R (D':=#[Y,Y,Y,Y,N,N,N,N,N]) (by kernel_rfl) (fun _ _ _ _ h=>h) R (vo (K:=kStr) (ja R) ty_9) ?_
    refine AtH.take [] hgd 4 R R R R (D':=#[Y,Y,Y,Y,Y,N,N,N,N]) (by kernel_rfl) (fun _ _ _ _ h=>h) R (jb (x:=(.tv (kSlice kStr) b1)) (ja R)) ?_
    refine AtH.take [] hgd 5 R R R R (D':=#[Y,Y,Y,Y,Y,Y,N,N,N]) (by kernel_rfl) (fun _ _ _ _ h=>h) R (jb (x:=(.tv (kInt .i64) i6)) (ja R)) ?_
    refine AtH.take [] hgd 6 R R R R (D':=#[Y,Y,Y,Y,Y,Y,Y,N,N]) (by kernel_rfl) (fun _ _ _ _ h=>h) R (vd (⟨#[]⟩:BA) (ja R) (ja R) Tryz.underlying41 ty_9 hq18) ?_
    refine AtH.take [] hgd 7 R R R R (D':=#[Y,Y,Y,Y,Y,Y,Y,Y,N]) (by kernel_rfl) (fun _ _ _ _ h=>h) R (vo (K:=kStr) (ja R) ty_9) ?_
    refine AtH.take [] hgd 8 R R R R (D':=#[Y,Y,Y,Y,Y,Y,Y,Y,Y]) (by kernel_rfl) (fun _ _ _ _ h=>h) R (jk (ja R) (ja R) bin_sneq) ?_
    refine AtH.done (by kernel_rfl) ?_
    refine At.vf ?_
    refine At.cond (ja R) (fun hb10=>?_) (fun hb10=>?_)
    ·replace hF:=W.ite_t hb10 hF
     refine At.seq ?_
     refine At.draw mixed [] R [] (fun φ w hgd=>?_)
     obtain ⟨hq19,hF⟩:=hF
     obtain ⟨hq20,hF⟩:=hF
     refine AtH.take [] hgd 0 R R R R (D':=#[Y,N,N,N,N,N,N,N,N,N]) (by kernel_rfl) (fun _ _ _ _ h=>h) R (jb (x:=(.tv (kSlice kStr) a1)) (ja R)) ?_
     refine AtH.take [] hgd 1 R R R R (D':=#[Y,Y,N,N,N,N,N,N,N,N]) (by kernel_rfl) (fun _ _ _ _ h=>h) R (jb (x:=(.tv (kInt .i64) i6)) (ja R)) ?_
     refine AtH.take [] hgd 2 R R R R (D':=#[Y,Y,Y,N,N,N,N,N,N,N]) (by kernel_rfl) (fun _ _ _ _ h=>h) R (vd (⟨#[]⟩:BA) (ja R) (ja R) Tryz.underlying41 ty_9 hq19) ?_
     refine AtH.take [] hgd 3 R R R R (D':=#[Y,Y,Y,Y,N,N,N,N,N,N]) (by kernel_rfl) (fun _ _ _ _ h=>h) R (vo (K:=kStr) (ja R) ty_9) ?_
     refine AtH.take [] hgd 4 R R R R (D':=#[Y,Y,Y,Y,Y,N,N,N,N,N]) (by kernel_rfl) (fun _ _ _ _ h=>h) R (jb (x:=(.tv (kSlice kStr) b1)) (ja R)) ?_
     refine AtH.take [] hgd 5 R R R R (D':=#[Y,Y,Y,Y,Y,Y,N,N,N,N]) (by kernel_rfl) (fun _ _ _ _ h=>h) R (jb (x:=(.tv (kInt .i64) i6)) (ja R)) ?_
     refine AtH.take [] hgd 6 R R R R (D':=#[Y,Y,Y,Y,Y,Y,Y,N,N,N]) (by kernel_rfl) (fun _ _ _ _ h=>h) R (vd (⟨#[]⟩:BA) (ja R) (ja R) Tryz.underlying41 ty_9 hq20) ?_
     refine AtH.take [] hgd 7 R R R R (D':=#[Y,Y,Y,Y,Y,Y,Y,Y,N,N]) (by kernel_rfl) (fun _ _ _ _ h=>h) R (vo (K:=kStr) (ja R) ty_9) ?_
     refine AtH.take [] hgd 8 R R R R (D':=#[Y,Y,Y,Y,Y,Y,Y,Y,Y,N]) (by kernel_rfl) (fun _ _ _ _ h=>h) R (jk (ja R) (ja R) bin_slss) ?_
     refine AtH.take [] hgd 9 R R R R (D':=#[Y,Y,Y,Y,Y,Y,Y,Y,Y,Y]) (by kernel_rfl) (fun _ _ _ _ h=>h) R (jd (x:=(.tv kBool (sLt (rd (⟨#[]⟩:BA) a1 i6) (rd (⟨#[]⟩:BA) b1 i6)))) (ja R)) ?_
     refine AtH.done (by kernel_rfl) ?_
     refine At.vf (At.ret ?_)
     refine At.q ?_
     refine At.vg (At.vg ?_)
     refine At.q ?_
     refine At.vg ?_
     exact At.j rfl (rv_tmp rfl) [] rfl ⟨(sLt (rd (⟨#[]⟩:BA) a1 i6) (rd (⟨#[]⟩:BA) b1 i6)),hF,rfl,rfl⟩
    ·replace hF:=W.ite_f hb10 hF
     refine At.skip ?_
     refine At.n ?_
     refine At.vf (At.region (At.d R R R R (jb (x:=(.tv (kInt .i64) i6)) (ja R)) ?_))
     refine At.d R R R R (jk (ja R) (ji _ _) jz) ?_
     refine At.d R R R R (jd (x:=(.tv (kInt .i64) (w64 (i6+(1:Int))))) (ja R)) ?_
     refine At.done (At.vf ?_)
     refine At.w [] R [(0,(.tv (kSlice kStr) a1)),(1,(.tv (kSlice kStr) b1)),(5,(.tv (kInt .i64) (w64 (i6+(1:Int)))))] ⟨R,R,R,trivial⟩ (At.r ⟨(w64 (i6+(1:Int))),hF,R,R⟩)
   ·replace hF:=W.ite_f hb9 hF
    refine At.exit ?_
    refine At.x (At.x ?_)
    refine At.h ?_
    refine At.vf ?_
    refine At.w [] R [(0,(.tv (kSlice kStr) a1)),(1,(.tv (kSlice kStr) b1))] ⟨R,R,trivial⟩ (At.r ⟨(),hF,R,R⟩)
 ·rintro _ _ ⟨_,hF,rfl,rfl⟩
  unfold ref13_Before.c1 at hF
  refine At.seq (At.region (At.d R R R R (jb (x:=(.tv (kSlice kStr) a1)) (ja R)) ?_))
  refine At.d R R R R (jt (ja R) Tryz.underlying41) ?_
  refine At.d R R R R (jb (x:=(.tv (kSlice kStr) b1)) (ja R)) ?_
  refine At.d R R R R (jt (ja R) Tryz.underlying41) ?_
  refine At.d R R R R (jk (ja R) (ja R) vc) ?_
  refine At.d R R R R (jd (x:=(.tv kBool (decide ((a1.length:Int)<(b1.length:Int))))) (ja R)) ?_
  refine At.done (At.vf (At.ret ?_))
  exact At.j rfl (rv_tmp rfl) [] rfl ⟨(decide ((a1.length:Int)<(b1.length:Int))),hF,rfl,rfl⟩
def ref13_Ids.F (a1:(List BA)) (b1:(List BA)):W Bool:=W.bind (ref13_Before.F a1 b1) (fun r1=>W.bind (W.ite (!r1) (ref13_Before.F b1 a1) (W.ret false)) (fun r2=>W.ret ((!r1)&&(!r2))))
theorem ref13_Ids.ok {a1:(List BA)} {b1:(List BA)} {Q:Bool→Prop} (hF:ref13_Ids.F a1 b1 Q):Con Tryz.prog 29 [.tv (kSlice kStr) a1,.tv (kSlice kStr) b1] [] (fun ta rs'=>∃ (r:Bool),Q r∧ta=.tv kBool r∧rs'=[]):=by
 refine Con.i Tryz.func29 Tryz.ntmps29 R R (fun C=>?_)
 unfold ref13_Ids.F at hF
 refine At.seq (At.region (At.d R R R R (jd (x:=(.tv kBool false)) (jl _)) ?_))
 refine At.done (At.vf (At.seq (At.region (At.d R R R R (jb (x:=(.tv (kSlice kStr) a1)) (ja R)) ?_))))
 refine At.d R R R R (jb (x:=(.tv (kSlice kStr) b1)) (ja R)) ?_
 replace hF:=W.vk hF
 refine At.f R (jn R R jp (jq R en_21 (jf (ja R) (jf (ja R) jg))) (ref13_Before.ok hF) (by rintro _ _ ⟨r,_,rfl,_⟩;exact vj)) ?_
 rintro _ _ ⟨_,_,⟨r1,hF,rfl,rfl⟩,rfl,rfl⟩
 refine At.d R R R R (does_not (ja R)) ?_
 refine At.d R R R R (jb (x:=(.tv kBool (!r1))) (ja R)) ?_
 refine At.vh R R R R (jv R) R (fun hg1=>(jb (x:=(.tv (kSlice kStr) b1)) (ja R))) ?_
 refine At.vh R R R R (jv R) R (fun hg2=>(jb (x:=(.tv (kSlice kStr) a1)) (ja R))) ?_
 replace hF:=W.vk hF
 refine At.effG R R R R (jv R) hF (fun r=>.tv kBool r) (fun hg3 hF=>eff_of (jn R R jp (jq R en_21 (jf (jh R hg3) (jf (jh R hg3) jg))) (ref13_Before.ok hF) (by rintro _ _ ⟨r,_,rfl,_⟩;exact vj)) (by rintro _ _ ⟨_,_,⟨r,hF,rfl,rfl⟩,rfl,rfl⟩;exact ⟨r,hF,R,R⟩)) (fun r2 hF=>?_)
 refine At.vh R R R R (jv R) R (fun hg4=>(does_not (jh R hg4))) ?_
 refine At.d R R R R (jm (ja R) (ja R) (jl _) pick_and) ?_
 refine At.d R R R R (jd (x:=(.tv kBool ((!r1)&&(!r2)))) (ja R)) ?_
 refine At.done (At.vf (At.ret ?_))
 exact At.j rfl (rv_tmp rfl) [] rfl ⟨((!r1)&&(!r2)),hF,rfl,rfl⟩
def law13_head.c1 (t1:Bool):W Bool:=W.ret t1
def law13_head.F:W Bool:=W.bind (law13_way.F (⟨#[118]⟩:BA) ([(⟨#[97]⟩:BA),(⟨#[98]⟩:BA)]:List BA)) (fun r1=>W.bind (law13_way.F (⟨#[119]⟩:BA) ([(⟨#[99]⟩:BA),(⟨#[100]⟩:BA)]:List BA)) (fun r2=>W.bind (law13_square.F ([r1,r2]:List Object)) (fun r3=>W.bind (border_Check.F r3) (fun r4=>W.bind (law13_way.F (⟨#[118]⟩:BA) ([(⟨#[97]⟩:BA),(⟨#[98]⟩:BA)]:List BA)) (fun r5=>W.bind (law13_way.F (⟨#[119]⟩:BA) ([(⟨#[98]⟩:BA),(⟨#[99]⟩:BA)]:List BA)) (fun r6=>W.bind (law13_square.F ([r5,r6]:List Object)) (fun r7=>W.bind (border_Check.F r7) (fun r8=>W.bind (law13_way.F (⟨#[118]⟩:BA) ([(⟨#[97]⟩:BA),(⟨#[98]⟩:BA),(⟨#[97]⟩:BA)]:List BA)) (fun r9=>W.bind (law13_way.F (⟨#[119]⟩:BA) ([(⟨#[98]⟩:BA),(⟨#[97]⟩:BA)]:List BA)) (fun r10=>W.bind (law13_square.F ([r9,r10]:List Object)) (fun r11=>W.bind (border_Check.F r11) (fun r12=>W.bind (law13_way.F (⟨#[118]⟩:BA) ([(⟨#[97]⟩:BA),(⟨#[98]⟩:BA),(⟨#[97]⟩:BA)]:List BA)) (fun r13=>W.bind (law13_way.F (⟨#[119]⟩:BA) ([(⟨#[98]⟩:BA),(⟨#[97]⟩:BA)]:List BA)) (fun r14=>W.bind (law13_square.F ([r13,r14]:List Object)) (fun r15=>W.bind (border_Segments.F r15) (fun r16=>W.ite ((((r4.length:Int) != (1:Int))||((r16.1.length:Int) != (1:Int)))||((r16.2.length:Int) != (1:Int))) (W.ret false) (W.bind (law13_way.F (⟨#[118]⟩:BA) ([(⟨#[97]⟩:BA),(⟨#[98]⟩:BA)]:List BA)) (fun r17=>W.bind (law13_square.F ([r17]:List Object)) (fun r18=>W.bind (border_Free.F r18 (⟨(⟨(4:Int),(4:Int)⟩:Point),(⟨(9:Int),(0:Int)⟩:Point)⟩:Segment)) (fun r19=>W.req (0≤(0:Int)∧(0:Int)<(r4.length:Int)) (W.req (0≤(0:Int)∧(0:Int)<(r4.length:Int)) (W.bind (ref13_Ids.F ((rd zViolation r4 (0:Int)).Ids) ([(⟨#[118]⟩:BA),(⟨#[119]⟩:BA)]:List BA)) (fun r25=>W.req (r25=true→0≤(0:Int)∧(0:Int)<(r4.length:Int)) (W.req (r25=true→0≤(0:Int)∧(0:Int)<(r4.length:Int)) (W.req ((((r25&&(((rd zViolation r4 (0:Int)).Kind)==(2:Int)))&&((r8.length:Int)==(0:Int)))&&((r12.length:Int)==(0:Int)))=true→0≤(0:Int)∧(0:Int)<(r16.2.length:Int)) (W.req ((((r25&&(((rd zViolation r4 (0:Int)).Kind)==(2:Int)))&&((r8.length:Int)==(0:Int)))&&((r12.length:Int)==(0:Int)))=true→0≤(0:Int)∧(0:Int)<(r16.2.length:Int)) (W.ite (((r25&&(((rd zViolation r4 (0:Int)).Kind)==(2:Int)))&&((r8.length:Int)==(0:Int)))&&((r12.length:Int)==(0:Int))) (W.bind (ref13_Ids.F (rd ([]:List BA) r16.2 (0:Int)) ([(⟨#[118]⟩:BA),(⟨#[119]⟩:BA)]:List BA)) (fun r26=>W.ite (r26&&r19) (W.bind (law13_way.F (⟨#[118]⟩:BA) ([(⟨#[97]⟩:BA),(⟨#[98]⟩:BA)]:List BA)) (fun r27=>W.bind (law13_square.F ([r27]:List Object)) (fun r28=>W.bind (border_Free.F r28 (⟨(⟨(2:Int),(2:Int)⟩:Point),(⟨(9:Int),(0:Int)⟩:Point)⟩:Segment)) (fun r29=>(law13_head.c1) (!r29))))) ((law13_head.c1) false))) ((law13_head.c1) false))))))))))))))))))))))))))))
theorem law13_head.ok {Q:Bool→Prop} (hF:law13_head.F Q):Con Tryz.prog 10 [] [] (fun ta rs'=>∃ (r:Bool),Q r∧ta=.tv kBool r∧rs'=[]):=by
 refine Con.i Tryz.func10 Tryz.ntmps10 R R (fun C=>?_)
 unfold law13_head.F at hF
 refine At.seq (At.region (At.d R R R R (jd (x:=(.tv kBool false)) (jl _)) ?_))
 refine At.done (At.vf (At.seq (At.region (At.f R (eff_lit R R R (os:=[.const (.string (⟨#[97]⟩:BA)),.const (.string (⟨#[98]⟩:BA))]) R sl_41 (xs:=([(⟨#[97]⟩:BA),(⟨#[98]⟩:BA)]:List BA)) (jf (ve _) (jf (ve _) jg)) R R) ?_))))
 rintro _ _ ⟨v1,rfl,rfl⟩
 refine At.freeze 0 7 R R ?_
 replace hF:=W.vk hF
 refine At.f R (jo R R (jq R en_27 (jf (ve _) (jf (ja R) jg))) [] R (law13_way.ok hF)) ?_
 rintro _ _ ⟨_,_,⟨r1,hF,rfl,rfl⟩,rfl,rfl⟩
 refine At.f R (eff_lit R R R (os:=[.const (.string (⟨#[99]⟩:BA)),.const (.string (⟨#[100]⟩:BA))]) R sl_41 (xs:=([(⟨#[99]⟩:BA),(⟨#[100]⟩:BA)]:List BA)) (jf (ve _) (jf (ve _) jg)) R R) ?_
 rintro _ _ ⟨v2,rfl,rfl⟩
 refine At.freeze 0 9 R R ?_
 replace hF:=W.vk hF
 refine At.f R (jo R R (jq R en_27 (jf (ve _) (jf (ja R) jg))) [] R (law13_way.ok hF)) ?_
 rintro _ _ ⟨_,_,⟨r2,hF,rfl,rfl⟩,rfl,rfl⟩
 refine At.f R (eff_lit R R R (os:=[.tmp 8,.tmp 10]) R sl_22 (xs:=([r1,r2]:List Object)) (jf (ja R) (jf (ja R) jg)) R R) ?_
 rintro _ _ ⟨v3,rfl,rfl⟩
 refine At.freeze 0 11 R R ?_
 replace hF:=W.vk hF
 refine At.f R (jo R R (jq R en_28 (jf (ja R) jg)) [] R (law13_square.ok hF)) ?_
 rintro _ _ ⟨_,_,⟨r3,hF,rfl,rfl⟩,rfl,rfl⟩
 replace hF:=W.vk hF
 refine At.f R (jo R R (jq R en_16 (jf (ja R) jg)) [] R (border_Check.ok hF)) ?_
 rintro _ _ ⟨_,_,⟨r4,v4,hF,rfl,rfl⟩,rfl,rfl⟩
 refine At.d R R R R (jd (x:=(.eq v4)) (ja R)) ?_
 refine At.done (At.vf (At.seq (At.region (At.f R (eff_lit R R R (os:=[.const (.string (⟨#[97]⟩:BA)),.const (.string (⟨#[98]⟩:BA))]) R sl_41 (xs:=([(⟨#[97]⟩:BA),(⟨#[98]⟩:BA)]:List BA)) (jf (ve _) (jf (ve _) jg)) R R) ?_))))
 rintro _ _ ⟨v5,rfl,rfl⟩
 refine At.freeze 0 14 R R ?_
 replace hF:=W.vk hF
 refine At.f R (jo R R (jq R en_27 (jf (ve _) (jf (ja R) jg))) [] R (law13_way.ok hF)) ?_
 rintro _ _ ⟨_,_,⟨r5,hF,rfl,rfl⟩,rfl,rfl⟩
 refine At.f R (eff_lit R R R (os:=[.const (.string (⟨#[98]⟩:BA)),.const (.string (⟨#[99]⟩:BA))]) R sl_41 (xs:=([(⟨#[98]⟩:BA),(⟨#[99]⟩:BA)]:List BA)) (jf (ve _) (jf (ve _) jg)) R R) ?_
 rintro _ _ ⟨v6,rfl,rfl⟩
 refine At.freeze 0 16 R R ?_
 replace hF:=W.vk hF
 refine At.f R (jo R R (jq R en_27 (jf (ve _) (jf (ja R) jg))) [] R (law13_way.ok hF)) ?_
 rintro _ _ ⟨_,_,⟨r6,hF,rfl,rfl⟩,rfl,rfl⟩
 refine At.f R (eff_lit R R R (os:=[.tmp 15,.tmp 17]) R sl_22 (xs:=([r5,r6]:List Object)) (jf (ja R) (jf (ja R) jg)) R R) ?_
 rintro _ _ ⟨v7,rfl,rfl⟩
 refine At.freeze 0 18 R R ?_
 replace hF:=W.vk hF
 refine At.f R (jo R R (jq R en_28 (jf (ja R) jg)) [] R (law13_square.ok hF)) ?_
 rintro _ _ ⟨_,_,⟨r7,hF,rfl,rfl⟩,rfl,rfl⟩
 replace hF:=W.vk hF
 refine At.f R (jo R R (jq R en_16 (jf (ja R) jg)) [] R (border_Check.ok hF)) ?_
 rintro _ _ ⟨_,_,⟨r8,v8,hF,rfl,rfl⟩,rfl,rfl⟩
 refine At.d R R R R (jd (x:=(.eq v8)) (ja R)) ?_
 refine At.done (At.vf (At.seq (At.region (At.f R (eff_lit R R R (os:=[.const (.string (⟨#[97]⟩:BA)),.const (.string (⟨#[98]⟩:BA)),.const (.string (⟨#[97]⟩:BA))]) R sl_41 (xs:=([(⟨#[97]⟩:BA),(⟨#[98]⟩:BA),(⟨#[97]⟩:BA)]:List BA)) (jf (ve _) (jf (ve _) (jf (ve _) jg))) R R) ?_))))
 rintro _ _ ⟨v9,rfl,rfl⟩
 refine At.freeze 0 21 R R ?_
 replace hF:=W.vk hF
 refine At.f R (jo R R (jq R en_27 (jf (ve _) (jf (ja R) jg))) [] R (law13_way.ok hF)) ?_
 rintro _ _ ⟨_,_,⟨r9,hF,rfl,rfl⟩,rfl,rfl⟩
 refine At.f R (eff_lit R R R (os:=[.const (.string (⟨#[98]⟩:BA)),.const (.string (⟨#[97]⟩:BA))]) R sl_41 (xs:=([(⟨#[98]⟩:BA),(⟨#[97]⟩:BA)]:List BA)) (jf (ve _) (jf (ve _) jg)) R R) ?_
 rintro _ _ ⟨v10,rfl,rfl⟩
 refine At.freeze 0 23 R R ?_
 replace hF:=W.vk hF
 refine At.f R (jo R R (jq R en_27 (jf (ve _) (jf (ja R) jg))) [] R (law13_way.ok hF)) ?_
 rintro _ _ ⟨_,_,⟨r10,hF,rfl,rfl⟩,rfl,rfl⟩
 refine At.f R (eff_lit R R R (os:=[.tmp 22,.tmp 24]) R sl_22 (xs:=([r9,r10]:List Object)) (jf (ja R) (jf (ja R) jg)) R R) ?_
 rintro _ _ ⟨v11,rfl,rfl⟩
 refine At.freeze 0 25 R R ?_
 replace hF:=W.vk hF
 refine At.f R (jo R R (jq R en_28 (jf (ja R) jg)) [] R (law13_square.ok hF)) ?_
 rintro _ _ ⟨_,_,⟨r11,hF,rfl,rfl⟩,rfl,rfl⟩
 replace hF:=W.vk hF
 refine At.f R (jo R R (jq R en_16 (jf (ja R) jg)) [] R (border_Check.ok hF)) ?_
 rintro _ _ ⟨_,_,⟨r12,v12,hF,rfl,rfl⟩,rfl,rfl⟩
 refine At.d R R R R (jd (x:=(.eq v12)) (ja R)) ?_
 refine At.done (At.vf (At.seq (At.region (At.f R (eff_lit R R R (os:=[.const (.string (⟨#[97]⟩:BA)),.const (.string (⟨#[98]⟩:BA)),.const (.string (⟨#[97]⟩:BA))]) R sl_41 (xs:=([(⟨#[97]⟩:BA),(⟨#[98]⟩:BA),(⟨#[97]⟩:BA)]:List BA)) (jf (ve _) (jf (ve _) (jf (ve _) jg))) R R) ?_))))
 rintro _ _ ⟨v13,rfl,rfl⟩
 refine At.freeze 0 29 R R ?_
 replace hF:=W.vk hF
 refine At.f R (jo R R (jq R en_27 (jf (ve _) (jf (ja R) jg))) [] R (law13_way.ok hF)) ?_
 rintro _ _ ⟨_,_,⟨r13,hF,rfl,rfl⟩,rfl,rfl⟩
 refine At.f R (eff_lit R R R (os:=[.const (.string (⟨#[98]⟩:BA)),.const (.string (⟨#[97]⟩:BA))]) R sl_41 (xs:=([(⟨#[98]⟩:BA),(⟨#[97]⟩:BA)]:List BA)) (jf (ve _) (jf (ve _) jg)) R R) ?_
 rintro _ _ ⟨v14,rfl,rfl⟩
 refine At.freeze 0 31 R R ?_
 replace hF:=W.vk hF
 refine At.f R (jo R R (jq R en_27 (jf (ve _) (jf (ja R) jg))) [] R (law13_way.ok hF)) ?_
 rintro _ _ ⟨_,_,⟨r14,hF,rfl,rfl⟩,rfl,rfl⟩
 refine At.f R (eff_lit R R R (os:=[.tmp 30,.tmp 32]) R sl_22 (xs:=([r13,r14]:List Object)) (jf (ja R) (jf (ja R) jg)) R R) ?_
 rintro _ _ ⟨v15,rfl,rfl⟩
 refine At.freeze 0 33 R R ?_
 replace hF:=W.vk hF
 refine At.f R (jo R R (jq R en_28 (jf (ja R) jg)) [] R (law13_square.ok hF)) ?_
 rintro _ _ ⟨_,_,⟨r15,hF,rfl,rfl⟩,rfl,rfl⟩
 replace hF:=W.vk hF
 refine At.f R (jo R R (jq R en_12 (jf (ja R) jg)) [] R (border_Segments.ok hF)) ?_
 rintro _ _ ⟨_,_,⟨r16,v16,v17,hF,rfl,rfl⟩,rfl,rfl⟩
 refine At.d R R R R (jb (x:=(.tup2 (.eq v16) (.eq v17))) (ja R)) ?_
 refine At.d R R R R (does_extract20 (ja R)) ?_
 refine At.d R R R R (does_extract21 (ja R)) ?_
 refine At.d R R R R (jd (x:=(.eq v16)) (ja R)) ?_
 refine At.d R R R R (jd (x:=(.eq v17)) (ja R)) ?_
 refine At.done (At.vf (At.seq (At.seq (At.region (At.d R R R R (jb (x:=(.eq v4)) (ja R)) ?_)))))
 refine At.d R R R R (does_len_row (ja R) 13 R Tryz.underlying33) ?_
 refine At.d R R R R (jk (ja R) (ji _ _) bin_neq) ?_
 refine At.d R R R R (jb (x:=(.tv kBool ((r4.length:Int) != (1:Int)))) (ja R)) ?_
 refine At.vh R R R R (jw R) R (fun hg1=>(jb (x:=(.eq v16)) (ja R))) ?_
 refine At.vh R R R R (jw R) R (fun hg2=>(does_len_row (jh R hg2) 0 R Tryz.underlying27)) ?_
 refine At.vh R R R R (jw R) R (fun hg3=>(jk (jh R hg3) (ji _ _) bin_neq)) ?_
 refine At.d R R R R (jm (ja R) (jl _) (ja R) pick_or) ?_
 refine At.d R R R R (jb (x:=(.tv kBool (((r4.length:Int) != (1:Int))||((r16.1.length:Int) != (1:Int))))) (ja R)) ?_
 refine At.vh R R R R (jw R) R (fun hg4=>(jb (x:=(.eq v17)) (ja R))) ?_
 refine At.vh R R R R (jw R) R (fun hg5=>(does_len_row (jh R hg5) 1 R Tryz.underlying28)) ?_
 refine At.vh R R R R (jw R) R (fun hg6=>(jk (jh R hg6) (ji _ _) bin_neq)) ?_
 refine At.d R R R R (jm (ja R) (jl _) (ja R) pick_or) ?_
 refine At.done (At.vf ?_)
 refine At.cond (ja R) (fun hb1=>?_) (fun hb1=>?_)
 ·replace hF:=W.ite_t hb1 hF
  refine At.seq (At.region (At.d R R R R (jd (x:=(.tv kBool false)) (jl _)) ?_))
  refine At.done (At.vf (At.ret (At.vg ?_)))
  exact At.j rfl (rv_tmp rfl) [] rfl ⟨false,hF,rfl,rfl⟩
 ·replace hF:=W.ite_f hb1 hF
  refine At.skip (At.vf (At.seq (At.region (At.f R (eff_lit R R R (os:=[.const (.string (⟨#[97]⟩:BA)),.const (.string (⟨#[98]⟩:BA))]) R sl_41 (xs:=([(⟨#[97]⟩:BA),(⟨#[98]⟩:BA)]:List BA)) (jf (ve _) (jf (ve _) jg)) R R) ?_))))
  rintro _ _ ⟨v18,rfl,rfl⟩
  refine At.freeze 0 51 R R ?_
  replace hF:=W.vk hF
  refine At.f R (jo R R (jq R en_27 (jf (ve _) (jf (ja R) jg))) [] R (law13_way.ok hF)) ?_
  rintro _ _ ⟨_,_,⟨r17,hF,rfl,rfl⟩,rfl,rfl⟩
  refine At.f R (eff_lit R R R (os:=[.tmp 52]) R sl_22 (xs:=([r17]:List Object)) (jf (ja R) jg) R R) ?_
  rintro _ _ ⟨v19,rfl,rfl⟩
  refine At.freeze 0 53 R R ?_
  replace hF:=W.vk hF
  refine At.f R (jo R R (jq R en_28 (jf (ja R) jg)) [] R (law13_square.ok hF)) ?_
  rintro _ _ ⟨_,_,⟨r18,hF,rfl,rfl⟩,rfl,rfl⟩
  refine At.d R R R R (jy (jr (ji _ _) (jr (ji _ _) js)) zr_37 bd_37 R (fills_cons R sub_Point_0 (fills_cons R sub_Point_1 fills_nil))) ?_
  refine At.d R R R R (jy (jr (ji _ _) js) zr_37 bd_37 R (fills_cons R sub_Point_0 fills_nil)) ?_
  refine At.d R R R R (jy (jr (ja R) (jr (ja R) js)) zr_39 bd_39 R (fills_cons R vw (fills_cons R vz fills_nil))) ?_
  replace hF:=W.vk hF
  refine At.f R (jn R R jp (jq R en_18 (jf (ja R) (jf (ja R) jg))) (border_Free.ok hF) (by rintro _ _ ⟨r,_,rfl,_⟩;exact vj)) ?_
  rintro _ _ ⟨_,_,⟨r19,hF,rfl,rfl⟩,rfl,rfl⟩
  refine At.d R R R R (jd (x:=(.tv kBool r19)) (ja R)) ?_
  refine At.done (At.vf ?_)
  refine At.cut (fun rs L=>∃ (t1:Bool),law13_head.c1 t1 Q∧rs=[]∧L=mkL [(0,(.tv kBool t1))]) ?_ ?_
  ·refine At.region (At.d R R R R (jb (x:=(.eq v4)) (ja R)) ?_)
   obtain ⟨hq7,hF⟩:=hF
   refine At.d R R R R (does_idx_row (ja R) 15 R (ji _ _) Tryz.underlying33 ty_43 hq7) ?_
   refine At.d R R R R (does_field_elem (ja R) fa_43_2) ?_
   obtain ⟨hq8,hF⟩:=hF
   refine At.d R R R R (Ja (ja R) 15 R (0:Int) 2 R zViolation hq8 sub_Violation_2 ty_41) ?_
   refine At.f R (eff_lit R R R (os:=[.const (.string (⟨#[118]⟩:BA)),.const (.string (⟨#[119]⟩:BA))]) R sl_41 (xs:=([(⟨#[118]⟩:BA),(⟨#[119]⟩:BA)]:List BA)) (jf (ve _) (jf (ve _) jg)) R R) ?_
   rintro _ _ ⟨v24,rfl,rfl⟩
   replace hF:=W.vk hF
   refine At.f R (jn R R (lends_row 0 63 R R jp) (jq R en_29 (jf (ja R) (jf (ja R) jg))) (ref13_Ids.ok hF) (by rintro _ _ ⟨r,_,rfl,_⟩;exact vj)) ?_
   rintro _ _ ⟨_,_,⟨r25,hF,rfl,rfl⟩,rfl,rfl⟩
   refine At.d R R R R (jb (x:=(.tv kBool r25)) (ja R)) ?_
   refine At.vh R R R R (jv R) R (fun hg22=>(jb (x:=(.eq v4)) (ja R))) ?_
   obtain ⟨hq9,hF⟩:=hF
   refine At.vh R R R R (jv R) R (fun hg23=>(does_idx_row (jh R hg23) 16 R (ji _ _) Tryz.underlying33 ty_43 (hq9 hg23))) ?_
   refine At.vh R R R R (jv R) R (fun hg24=>(does_field_elem (jh R hg24) fa_43_1)) ?_
   obtain ⟨hq10,hF⟩:=hF
   refine At.vh R R R R (jv R) R (fun hg25=>(Ja (jh R hg25) 16 R (0:Int) 1 R zViolation (hq10 hg25) sub_Violation_1 ty_3)) ?_
   refine At.vh R R R R (jv R) R (fun hg26=>(jk (jh R hg26) (ji _ _) bin_eql)) ?_
   refine At.d R R R R (jm (ja R) (ja R) (jl _) pick_and) ?_
   refine At.d R R R R (jb (x:=(.tv kBool (r25&&(((rd zViolation r4 (0:Int)).Kind)==(2:Int))))) (ja R)) ?_
   refine At.vh R R R R (jv R) R (fun hg27=>(jb (x:=(.eq v8)) (ja R))) ?_
   refine At.vh R R R R (jv R) R (fun hg28=>(does_len_row (jh R hg28) 12 R Tryz.underlying33)) ?_
   refine At.vh R R R R (jv R) R (fun hg29=>(jk (jh R hg29) (ji _ _) bin_eql)) ?_
   refine At.d R R R R (jm (ja R) (ja R) (jl _) pick_and) ?_
   refine At.d R R R R (jb (x:=(.tv kBool ((r25&&(((rd zViolation r4 (0:Int)).Kind)==(2:Int)))&&((r8.length:Int)==(0:Int))))) (ja R)) ?_
   refine At.vh R R R R (jv R) R (fun hg30=>(jb (x:=(.eq v12)) (ja R))) ?_
   refine At.vh R R R R (jv R) R (fun hg31=>(does_len_row (jh R hg31) 8 R Tryz.underlying33)) ?_
   refine At.vh R R R R (jv R) R (fun hg32=>(jk (jh R hg32) (ji _ _) bin_eql)) ?_
   refine At.d R R R R (jm (ja R) (ja R) (jl _) pick_and) ?_
   refine At.d R R R R (jb (x:=(.tv kBool (((r25&&(((rd zViolation r4 (0:Int)).Kind)==(2:Int)))&&((r8.length:Int)==(0:Int)))&&((r12.length:Int)==(0:Int))))) (ja R)) ?_
   refine At.vh R R R R (jv R) R (fun hg33=>(jb (x:=(.eq v17)) (ja R))) ?_
   obtain ⟨hq11,hF⟩:=hF
   refine At.vh R R R R (jv R) R (fun hg34=>(does_idx_row (jh R hg34) 4 R (ji _ _) Tryz.underlying28 ty_41 (hq11 hg34))) ?_
   obtain ⟨hq12,hF⟩:=hF
   refine At.vh R R R R (jv R) R (fun hg35=>(Ja (jh R hg35) 4 R (0:Int) 0 R ([]:List BA) (hq12 hg35) (Sub.self (kSlice kStr)) ty_41)) ?_
   refine At.split (((r25&&(((rd zViolation r4 (0:Int)).Kind)==(2:Int)))&&((r8.length:Int)==(0:Int)))&&((r12.length:Int)==(0:Int))) (fun hb4=>?_) (fun hb4=>?_)
   ·replace hF:=W.ite_t hb4 hF
    refine At.whenT 66 R (and_l (and_l (and_l hb4))) ?_
    refine At.whenT 67 R (and_l (and_l (and_l hb4))) ?_
    refine At.whenT 68 R (and_l (and_l (and_l hb4))) ?_
    refine At.whenT 69 R (and_l (and_l (and_l hb4))) ?_
    refine At.whenT 70 R (and_l (and_l (and_l hb4))) ?_
    refine At.whenT 73 R (and_l (and_l hb4)) ?_
    refine At.whenT 74 R (and_l (and_l hb4)) ?_
    refine At.whenT 75 R (and_l (and_l hb4)) ?_
    refine At.whenT 78 R (and_l hb4) ?_
    refine At.whenT 79 R (and_l hb4) ?_
    refine At.whenT 80 R (and_l hb4) ?_
    refine At.whenT 83 R hb4 ?_
    refine At.whenT 84 R hb4 ?_
    refine At.whenT 85 R hb4 ?_
    refine At.effT R R (jv R) hb4 (eff_lit R R R (os:=[.const (.string (⟨#[118]⟩:BA)),.const (.string (⟨#[119]⟩:BA))]) R sl_41 (xs:=([(⟨#[118]⟩:BA),(⟨#[119]⟩:BA)]:List BA)) (jf (ve _) (jf (ve _) jg)) R R) ?_
    rintro _ _ ⟨v25,rfl,rfl⟩
    replace hF:=W.vk hF
    refine At.effT R R (jv R) hb4 (jn R R (lends_row 0 86 R R jp) (jq R en_29 (jf (ja R) (jf (ja R) jg))) (ref13_Ids.ok hF) (by rintro _ _ ⟨r,_,rfl,_⟩;exact vj)) ?_
    rintro _ _ ⟨_,_,⟨r26,hF,rfl,rfl⟩,rfl,rfl⟩
    refine At.d R R R R (does_pickT (ja R) hb4 (ja R)) ?_
    refine At.d R R R R (jb (x:=(.tv kBool r26)) (ja R)) ?_
    refine At.vh R R R R (jv R) R (fun hg36=>(jb (x:=(.tv kBool r19)) (ja R))) ?_
    refine At.d R R R R (jm (ja R) (ja R) (jl _) pick_and) ?_
    refine At.d R R R R (jb (x:=(.tv kBool (r26&&r19))) (ja R)) ?_
    refine At.split (r26&&r19) (fun hb5=>?_) (fun hb5=>?_)
    ·replace hF:=W.ite_t hb5 hF
     refine At.whenT 90 R (and_l hb5) ?_
     refine At.effT R R (jv R) hb5 (eff_lit R R R (os:=[.const (.string (⟨#[97]⟩:BA)),.const (.string (⟨#[98]⟩:BA))]) R sl_41 (xs:=([(⟨#[97]⟩:BA),(⟨#[98]⟩:BA)]:List BA)) (jf (ve _) (jf (ve _) jg)) R R) ?_
     rintro _ _ ⟨v26,rfl,rfl⟩
     refine At.freeze 0 93 R R ?_
     replace hF:=W.vk hF
     refine At.effT R R (jv R) hb5 (jo R R (jq R en_27 (jf (ve _) (jf (ja R) jg))) [] R (law13_way.ok hF)) ?_
     rintro _ _ ⟨_,_,⟨r27,hF,rfl,rfl⟩,rfl,rfl⟩
     refine At.effT R R (jv R) hb5 (eff_lit R R R (os:=[.tmp 94]) R sl_22 (xs:=([r27]:List Object)) (jf (ja R) jg) R R) ?_
     rintro _ _ ⟨v27,rfl,rfl⟩
     refine At.freeze 0 95 R R ?_
     replace hF:=W.vk hF
     refine At.effT R R (jv R) hb5 (jo R R (jq R en_28 (jf (ja R) jg)) [] R (law13_square.ok hF)) ?_
     rintro _ _ ⟨_,_,⟨r28,hF,rfl,rfl⟩,rfl,rfl⟩
     refine At.doesT R R (jv R) hb5 R R R (jy (jr (ji _ _) (jr (ji _ _) js)) zr_37 bd_37 R (fills_cons R sub_Point_0 (fills_cons R sub_Point_1 fills_nil))) ?_
     refine At.doesT R R (jv R) hb5 R R R (jy (jr (ji _ _) js) zr_37 bd_37 R (fills_cons R sub_Point_0 fills_nil)) ?_
     refine At.doesT R R (jv R) hb5 R R R (jy (jr (ja R) (jr (ja R) js)) zr_39 bd_39 R (fills_cons R vw (fills_cons R vz fills_nil))) ?_
     replace hF:=W.vk hF
     refine At.effT R R (jv R) hb5 (jn R R jp (jq R en_18 (jf (ja R) (jf (ja R) jg))) (border_Free.ok hF) (by rintro _ _ ⟨r,_,rfl,_⟩;exact vj)) ?_
     rintro _ _ ⟨_,_,⟨r29,hF,rfl,rfl⟩,rfl,rfl⟩
     refine At.doesT R R (jv R) hb5 R R R (does_not (ja R)) ?_
     refine At.d R R R R (does_pickT (ja R) hb5 (ja R)) ?_
     refine At.d R R R R (jd (x:=(.tv kBool (!r29))) (ja R)) ?_
     refine At.done (At.vf ?_)
     refine At.w [] R [(0,(.tv kBool (!r29)))] ⟨R,trivial⟩ (At.r ⟨(!r29),hF,R,R⟩)
    ·replace hF:=W.ite_f hb5 hF
     refine At.skipG R R (jv R) hb5 R R ?_
     refine At.skipG R R (jv R) hb5 R R ?_
     refine At.skipG R R (jv R) hb5 R R ?_
     refine At.skipG R R (jv R) hb5 R R ?_
     refine At.skipG R R (jv R) hb5 R R ?_
     refine At.skipG R R (jv R) hb5 R R ?_
     refine At.skipG R R (jv R) hb5 R R ?_
     refine At.skipG R R (jv R) hb5 R R ?_
     refine At.skipG R R (jv R) hb5 R R ?_
     refine At.d R R R R (does_pickF (ja R) hb5 (jl _)) ?_
     refine At.d R R R R (jd (x:=(.tv kBool false)) (ja R)) ?_
     refine At.done (At.vf ?_)
     refine At.w [] R [(0,(.tv kBool false))] ⟨R,trivial⟩ (At.r ⟨false,hF,R,R⟩)
   ·replace hF:=W.ite_f hb4 hF
    refine At.skipG R R (jv R) hb4 R R ?_
    refine At.skipG R R (jv R) hb4 R R ?_
    refine At.d R R R R (does_pickF (ja R) hb4 (jl _)) ?_
    refine At.d R R R R (jb (x:=(.tv kBool false)) (ja R)) ?_
    refine At.skipG R R (jv R) R R R ?_
    refine At.d R R R R (does_pickF (ja R) R (jl _)) ?_
    refine At.d R R R R (jb (x:=(.tv kBool false)) (ja R)) ?_
    refine At.skipG R R (jv R) R R R ?_
    refine At.skipG R R (jv R) R R R ?_
    refine At.skipG R R (jv R) R R R ?_
    refine At.skipG R R (jv R) R R R ?_
    refine At.skipG R R (jv R) R R R ?_
    refine At.skipG R R (jv R) R R R ?_
    refine At.skipG R R (jv R) R R R ?_
    refine At.skipG R R (jv R) R R R ?_
    refine At.skipG R R (jv R) R R R ?_
    refine At.d R R R R (does_pickF (ja R) R (jl _)) ?_
    refine At.d R R R R (jd (x:=(.tv kBool false)) (ja R)) ?_
    refine At.done (At.vf ?_)
    refine At.w [] R [(0,(.tv kBool false))] ⟨R,trivial⟩ (At.r ⟨false,hF,R,R⟩)
  ·rintro _ _ ⟨t1,hF,rfl,rfl⟩
   unfold law13_head.c1 at hF
   refine At.ret ?_
   exact At.j rfl (rv_tmp rfl) [] rfl ⟨t1,hF,rfl,rfl⟩
def law13_named.c1:W Bool:=W.ret false
def law13_named.l1 (l1:(List Violation)) (a1:BA) (b1:BA) (K1:W Bool) (A1:Int→W Bool) (i6:Int):W Bool:=W.ite (decide (i6<(l1.length:Int))) (W.req (0≤i6∧i6<(l1.length:Int)) (W.req ((((((rd zViolation l1 i6).Ids).length:Int)==(1:Int))&&(sEq a1 b1))=true→0≤i6∧i6<(l1.length:Int)) (W.req ((((((rd zViolation l1 i6).Ids).length:Int)==(1:Int))&&(sEq a1 b1))=true→0≤(0:Int)∧(0:Int)<(((rd zViolation l1 i6).Ids).length:Int)) (W.req ((!((((((rd zViolation l1 i6).Ids).length:Int)==(1:Int))&&(sEq a1 b1))&&(sEq (rd (⟨#[]⟩:BA) ((rd zViolation l1 i6).Ids) (0:Int)) a1)))=true→0≤i6∧i6<(l1.length:Int)) (W.req (((!((((((rd zViolation l1 i6).Ids).length:Int)==(1:Int))&&(sEq a1 b1))&&(sEq (rd (⟨#[]⟩:BA) ((rd zViolation l1 i6).Ids) (0:Int)) a1)))&&((((rd zViolation l1 i6).Ids).length:Int)==(2:Int)))=true→0≤i6∧i6<(l1.length:Int)) (W.req (((!((((((rd zViolation l1 i6).Ids).length:Int)==(1:Int))&&(sEq a1 b1))&&(sEq (rd (⟨#[]⟩:BA) ((rd zViolation l1 i6).Ids) (0:Int)) a1)))&&((((rd zViolation l1 i6).Ids).length:Int)==(2:Int)))=true→0≤(0:Int)∧(0:Int)<(((rd zViolation l1 i6).Ids).length:Int)) (W.req (((!((((((rd zViolation l1 i6).Ids).length:Int)==(1:Int))&&(sEq a1 b1))&&(sEq (rd (⟨#[]⟩:BA) ((rd zViolation l1 i6).Ids) (0:Int)) a1)))&&(((((rd zViolation l1 i6).Ids).length:Int)==(2:Int))&&(sEq (rd (⟨#[]⟩:BA) ((rd zViolation l1 i6).Ids) (0:Int)) (sMin a1 b1))))=true→0≤i6∧i6<(l1.length:Int)) (W.req (((!((((((rd zViolation l1 i6).Ids).length:Int)==(1:Int))&&(sEq a1 b1))&&(sEq (rd (⟨#[]⟩:BA) ((rd zViolation l1 i6).Ids) (0:Int)) a1)))&&(((((rd zViolation l1 i6).Ids).length:Int)==(2:Int))&&(sEq (rd (⟨#[]⟩:BA) ((rd zViolation l1 i6).Ids) (0:Int)) (sMin a1 b1))))=true→0≤(1:Int)∧(1:Int)<(((rd zViolation l1 i6).Ids).length:Int)) (W.ite (((((((rd zViolation l1 i6).Ids).length:Int)==(1:Int))&&(sEq a1 b1))&&(sEq (rd (⟨#[]⟩:BA) ((rd zViolation l1 i6).Ids) (0:Int)) a1))||((((((rd zViolation l1 i6).Ids).length:Int)==(2:Int))&&(sEq (rd (⟨#[]⟩:BA) ((rd zViolation l1 i6).Ids) (0:Int)) (sMin a1 b1)))&&(sEq (rd (⟨#[]⟩:BA) ((rd zViolation l1 i6).Ids) (1:Int)) (sMax a1 b1)))) (W.ret true) (A1 (w64 (i6+(1:Int))))))))))))) (K1)
def law13_named.F (l1:(List Violation)) (a1:BA) (b1:BA):W Bool:=W.ex fun n=>W.iter1 (law13_named.l1 l1 a1 b1 (law13_named.c1)) n (0:Int)
theorem law13_named.ok {l1:(List Violation)} {a1:BA} {b1:BA} {Q:Bool→Prop} (hF:law13_named.F l1 a1 b1 Q):Con Tryz.prog 24 [.tv (kSlice kViolation) l1,.tv kStr a1,.tv kStr b1] [] (fun ta rs'=>∃ (r:Bool),Q r∧ta=.tv kBool r∧rs'=[]):=by
 refine Con.i Tryz.func24 Tryz.ntmps24 R R (fun C=>?_)
 unfold law13_named.F at hF
 refine At.seq (At.region (At.d R R R R (jd (x:=(.tv kBool false)) (jl _)) ?_))
 refine At.done (At.vf ?_)
 refine At.cut (fun rs L=>∃ _:Unit,law13_named.c1 Q∧rs=[]∧L=mkL []) ?_ ?_
 ·refine At.seq (At.region (At.d R R R R (jd (x:=(.tv (kInt .i64) (0:Int))) (ji _ _)) ?_))
  refine At.done (At.vf (At.block ?_))
  obtain ⟨n1,hF⟩:=hF
  refine At.w [] R [(0,(.tv (kSlice kViolation) l1)),(1,(.tv kStr a1)),(2,(.tv kStr b1)),(7,(.tv (kInt .i64) (0:Int)))] ⟨R,R,R,R,trivial⟩ ?_
  refine At.loop (fun m rs L=>∃ (i6:Int),W.iter1 (law13_named.l1 l1 a1 b1 (law13_named.c1)) m i6 Q∧rs=[]∧L=mkL [(0,(.tv (kSlice kViolation) l1)),(1,(.tv kStr a1)),(2,(.tv kStr b1)),(7,(.tv (kInt .i64) i6))]) ?_ ?_ (m:=n1) ⟨(0:Int),hF,R,R⟩
  ·rintro rs L ⟨_,hF,_,_⟩;exact hF
  ·rintro m1 _ _ ⟨i6,hF,rfl,rfl⟩
   replace hF:=W.iter1_s hF
   unfold law13_named.l1 at hF
   refine At.seq (At.seq (At.region (At.d R R R R (jb (x:=(.tv (kInt .i64) i6)) (ja R)) ?_)))
   refine At.d R R R R (jb (x:=(.tv (kSlice kViolation) l1)) (ja R)) ?_
   refine At.d R R R R (jt (ja R) Tryz.underlying33) ?_
   refine At.d R R R R (jk (ja R) (ja R) vc) ?_
   refine At.done (At.vf ?_)
   refine At.cond (ja R) (fun hb9=>?_) (fun hb9=>?_)
   ·replace hF:=W.ite_t hb9 hF
    refine At.skip (At.vf (At.seq (At.block (At.seq (At.region (At.d R R R R (jb (x:=(.tv (kSlice kViolation) l1)) (ja R)) ?_))))))
    refine At.d R R R R (jb (x:=(.tv (kInt .i64) i6)) (ja R)) ?_
    obtain ⟨hq33,hF⟩:=hF
    refine At.d R R R R (vd zViolation (ja R) (ja R) Tryz.underlying33 ty_43 hq33) ?_
    refine At.d R R R R (Jb (K:=kViolation) (ja R) fa_43_2 sub_Violation_2) ?_
    refine At.d R R R R (vo (K:=(kSlice kStr)) (ja R) ty_41) ?_
    refine At.d R R R R (jt (ja R) Tryz.underlying41) ?_
    refine At.d R R R R (jk (ja R) (ji _ _) bin_eql) ?_
    refine At.d R R R R (jb (x:=(.tv kBool ((((rd zViolation l1 i6).Ids).length:Int)==(1:Int)))) (ja R)) ?_
    refine At.vh R R R R (jv R) R (fun hg181=>(jb (x:=(.tv kStr a1)) (ja R))) ?_
    refine At.vh R R R R (jv R) R (fun hg182=>(jb (x:=(.tv kStr b1)) (ja R))) ?_
    refine At.vh R R R R (jv R) R (fun hg183=>(jk (jh R hg183) (jh R hg183) bin_seql)) ?_
    refine At.d R R R R (jm (ja R) (ja R) (jl _) pick_and) ?_
    refine At.d R R R R (jb (x:=(.tv kBool (((((rd zViolation l1 i6).Ids).length:Int)==(1:Int))&&(sEq a1 b1)))) (ja R)) ?_
    refine At.vh R R R R (jv R) R (fun hg184=>(jb (x:=(.tv (kSlice kViolation) l1)) (ja R))) ?_
    refine At.vh R R R R (jv R) R (fun hg185=>(jb (x:=(.tv (kInt .i64) i6)) (ja R))) ?_
    obtain ⟨hq34,hF⟩:=hF
    refine At.vh R R R R (jv R) R (fun hg186=>(vd zViolation (jh R hg186) (jh R hg186) Tryz.underlying33 ty_43 (hq34 hg186))) ?_
    refine At.vh R R R R (jv R) R (fun hg187=>(Jb (K:=kViolation) (jh R hg187) fa_43_2 sub_Violation_2)) ?_
    refine At.vh R R R R (jv R) R (fun hg188=>(vo (K:=(kSlice kStr)) (jh R hg188) ty_41)) ?_
    obtain ⟨hq35,hF⟩:=hF
    refine At.vh R R R R (jv R) R (fun hg189=>(vd (⟨#[]⟩:BA) (jh R hg189) (ji _ _) Tryz.underlying41 ty_9 (hq35 hg189))) ?_
    refine At.vh R R R R (jv R) R (fun hg190=>(vo (K:=kStr) (jh R hg190) ty_9)) ?_
    refine At.vh R R R R (jv R) R (fun hg191=>(jb (x:=(.tv kStr a1)) (ja R))) ?_
    refine At.vh R R R R (jv R) R (fun hg192=>(jk (jh R hg192) (jh R hg192) bin_seql)) ?_
    refine At.d R R R R (jm (ja R) (ja R) (jl _) pick_and) ?_
    refine At.d R R R R (jb (x:=(.tv kBool ((((((rd zViolation l1 i6).Ids).length:Int)==(1:Int))&&(sEq a1 b1))&&(sEq (rd (⟨#[]⟩:BA) ((rd zViolation l1 i6).Ids) (0:Int)) a1)))) (ja R)) ?_
    refine At.vh R R R R (jw R) R (fun hg193=>(jb (x:=(.tv (kSlice kViolation) l1)) (ja R))) ?_
    refine At.vh R R R R (jw R) R (fun hg194=>(jb (x:=(.tv (kInt .i64) i6)) (ja R))) ?_
    obtain ⟨hq36,hF⟩:=hF
    refine At.vh R R R R (jw R) R (fun hg195=>(vd zViolation (jh R hg195) (jh R hg195) Tryz.underlying33 ty_43 (hq36 hg195))) ?_
    refine At.vh R R R R (jw R) R (fun hg196=>(Jb (K:=kViolation) (jh R hg196) fa_43_2 sub_Violation_2)) ?_
    refine At.vh R R R R (jw R) R (fun hg197=>(vo (K:=(kSlice kStr)) (jh R hg197) ty_41)) ?_
    refine At.vh R R R R (jw R) R (fun hg198=>(jt (jh R hg198) Tryz.underlying41)) ?_
    refine At.vh R R R R (jw R) R (fun hg199=>(jk (jh R hg199) (ji _ _) bin_eql)) ?_
    refine At.vh R R R R (jw R) R (fun hg200=>(jb (x:=(.tv kBool ((((rd zViolation l1 i6).Ids).length:Int)==(2:Int)))) (jh R hg200))) ?_
    refine At.vh R R R R (ju R) R (fun hg201=>(jb (x:=(.tv (kSlice kViolation) l1)) (ja R))) ?_
    refine At.vh R R R R (ju R) R (fun hg202=>(jb (x:=(.tv (kInt .i64) i6)) (ja R))) ?_
    obtain ⟨hq37,hF⟩:=hF
    refine At.vh R R R R (ju R) R (fun hg203=>(vd zViolation (jh R hg203) (jh R hg203) Tryz.underlying33 ty_43 (hq37 hg203))) ?_
    refine At.vh R R R R (ju R) R (fun hg204=>(Jb (K:=kViolation) (jh R hg204) fa_43_2 sub_Violation_2)) ?_
    refine At.vh R R R R (ju R) R (fun hg205=>(vo (K:=(kSlice kStr)) (jh R hg205) ty_41)) ?_
    obtain ⟨hq38,hF⟩:=hF
    refine At.vh R R R R (ju R) R (fun hg206=>(vd (⟨#[]⟩:BA) (jh R hg206) (ji _ _) Tryz.underlying41 ty_9 (hq38 hg206))) ?_
    refine At.vh R R R R (ju R) R (fun hg207=>(vo (K:=kStr) (jh R hg207) ty_9)) ?_
    refine At.vh R R R R (ju R) R (fun hg208=>(jb (x:=(.tv kStr a1)) (ja R))) ?_
    refine At.vh R R R R (ju R) R (fun hg209=>(jb (x:=(.tv kStr b1)) (ja R))) ?_
    refine At.vh R R R R (ju R) R (fun hg210=>(does_smin (jh R hg210) (jh R hg210))) ?_
    refine At.vh R R R R (ju R) R (fun hg211=>(jk (jh R hg211) (jh R hg211) bin_seql)) ?_
    refine At.vh R R R R (jw R) R (fun hg212=>(jm (jh R hg212) (ja R) (jl _) (pick_andG (and_of hg212)))) ?_
    refine At.vh R R R R (jw R) R (fun hg213=>(jb (x:=(.tv kBool (((((rd zViolation l1 i6).Ids).length:Int)==(2:Int))&&(sEq (rd (⟨#[]⟩:BA) ((rd zViolation l1 i6).Ids) (0:Int)) (sMin a1 b1))))) (jh R hg213))) ?_
    refine At.vh R R R R (ju R) R (fun hg214=>(jb (x:=(.tv (kSlice kViolation) l1)) (ja R))) ?_
    refine At.vh R R R R (ju R) R (fun hg215=>(jb (x:=(.tv (kInt .i64) i6)) (ja R))) ?_
    obtain ⟨hq39,hF⟩:=hF
    refine At.vh R R R R (ju R) R (fun hg216=>(vd zViolation (jh R hg216) (jh R hg216) Tryz.underlying33 ty_43 (hq39 hg216))) ?_
    refine At.vh R R R R (ju R) R (fun hg217=>(Jb (K:=kViolation) (jh R hg217) fa_43_2 sub_Violation_2)) ?_
    refine At.vh R R R R (ju R) R (fun hg218=>(vo (K:=(kSlice kStr)) (jh R hg218) ty_41)) ?_
    obtain ⟨hq40,hF⟩:=hF
    refine At.vh R R R R (ju R) R (fun hg219=>(vd (⟨#[]⟩:BA) (jh R hg219) (ji _ _) Tryz.underlying41 ty_9 (hq40 hg219))) ?_
    refine At.vh R R R R (ju R) R (fun hg220=>(vo (K:=kStr) (jh R hg220) ty_9)) ?_
    refine At.vh R R R R (ju R) R (fun hg221=>(jb (x:=(.tv kStr a1)) (ja R))) ?_
    refine At.vh R R R R (ju R) R (fun hg222=>(jb (x:=(.tv kStr b1)) (ja R))) ?_
    refine At.vh R R R R (ju R) R (fun hg223=>(does_smax (jh R hg223) (jh R hg223))) ?_
    refine At.vh R R R R (ju R) R (fun hg224=>(jk (jh R hg224) (jh R hg224) bin_seql)) ?_
    refine At.vh R R R R (jw R) R (fun hg225=>(jm (jh R hg225) (ja R) (jl _) (pick_andG (and_of hg225)))) ?_
    refine At.d R R R R (jm (ja R) (jl _) (ja R) pick_or) ?_
    refine At.done (At.vf ?_)
    refine At.cond (ja R) (fun hb10=>?_) (fun hb10=>?_)
    ·replace hF:=W.ite_t hb10 hF
     refine At.seq (At.region (At.d R R R R (jd (x:=(.tv kBool true)) (jl _)) ?_))
     refine At.done (At.vf (At.ret ?_))
     refine At.q ?_
     refine At.vg (At.vg ?_)
     refine At.q ?_
     refine At.vg ?_
     exact At.j rfl (rv_tmp rfl) [] rfl ⟨true,hF,rfl,rfl⟩
    ·replace hF:=W.ite_f hb10 hF
     refine At.skip ?_
     refine At.n ?_
     refine At.vf (At.region (At.d R R R R (jb (x:=(.tv (kInt .i64) i6)) (ja R)) ?_))
     refine At.d R R R R (jk (ja R) (ji _ _) jz) ?_
     refine At.d R R R R (jd (x:=(.tv (kInt .i64) (w64 (i6+(1:Int))))) (ja R)) ?_
     refine At.done (At.vf ?_)
     refine At.w [] R [(0,(.tv (kSlice kViolation) l1)),(1,(.tv kStr a1)),(2,(.tv kStr b1)),(7,(.tv (kInt .i64) (w64 (i6+(1:Int)))))] ⟨R,R,R,R,trivial⟩ (At.r ⟨(w64 (i6+(1:Int))),hF,R,R⟩)
   ·replace hF:=W.ite_f hb9 hF
    refine At.exit ?_
    refine At.x (At.x ?_)
    refine At.h ?_
    refine At.vf ?_
    refine At.w [] R [] trivial (At.r ⟨(),hF,R,R⟩)
 ·rintro _ _ ⟨_,hF,rfl,rfl⟩
  unfold law13_named.c1 at hF
  refine At.seq (At.region (At.d R R R R (jd (x:=(.tv kBool false)) (jl _)) ?_))
  refine At.done (At.vf (At.ret ?_))
  exact At.j rfl (rv_tmp rfl) [] rfl ⟨false,hF,rfl,rfl⟩
def ref13_Sides.c3 (x9:(List (BA×BA))):W (List (BA×BA)):=W.ret x9
def ref13_Sides.l1 (K3:(List (BA×BA))→W (List (BA×BA))) (A1:(List (BA×BA))→Int→W (List (BA×BA))) (x12:(List (BA×BA))) (i9:Int):W (List (BA×BA)):=W.ite (decide (i9<(x12.length:Int))) (W.req (0≤i9∧i9<(x12.length:Int)) (A1 (x12.set i9.toNat ((sMin ((rd ((⟨#[]⟩:BA),(⟨#[]⟩:BA)) x12 i9).1) ((rd ((⟨#[]⟩:BA),(⟨#[]⟩:BA)) x12 i9).2)),(sMax ((rd ((⟨#[]⟩:BA),(⟨#[]⟩:BA)) x12 i9).1) ((rd ((⟨#[]⟩:BA),(⟨#[]⟩:BA)) x12 i9).2)))) (w64 (i9+(1:Int))))) (K3 x12)
def ref13_Sides.c2 (x5:(List (BA×BA))):W (List (BA×BA)):=W.ex fun n=>W.iter2 (ref13_Sides.l1 (ref13_Sides.c3)) n x5 (0:Int)
def ref13_Sides.c1 (o1:Object) (x4:(List (BA×BA))):W (List (BA×BA)):=W.ite (o1.Kind==(3:Int)) (W.req (0≤(w64 ((o1.Refs.length:Int)-(1:Int)))∧(w64 ((o1.Refs.length:Int)-(1:Int)))<(o1.Refs.length:Int)) (W.req (0≤(0:Int)∧(0:Int)<(o1.Refs.length:Int)) (W.req ((x4.length+([((rd (⟨#[]⟩:BA) o1.Refs (w64 ((o1.Refs.length:Int)-(1:Int)))),(rd (⟨#[]⟩:BA) o1.Refs (0:Int)))]:List (BA×BA)).length)*32≤140737488355328∧x4.length+([((rd (⟨#[]⟩:BA) o1.Refs (w64 ((o1.Refs.length:Int)-(1:Int)))),(rd (⟨#[]⟩:BA) o1.Refs (0:Int)))]:List (BA×BA)).length≤140737488355328) ((ref13_Sides.c2) (x4++([((rd (⟨#[]⟩:BA) o1.Refs (w64 ((o1.Refs.length:Int)-(1:Int)))),(rd (⟨#[]⟩:BA) o1.Refs (0:Int)))]:List (BA×BA))))))) ((ref13_Sides.c2) x4)
def ref13_Sides.l2 (o1:Object) (K1:(List (BA×BA))→W (List (BA×BA))) (A2:(List (BA×BA))→Int→W (List (BA×BA))) (x15:(List (BA×BA))) (i12:Int):W (List (BA×BA)):=W.ite (decide ((w64 (i12+(1:Int)))<(o1.Refs.length:Int))) (W.req (0≤i12∧i12<(o1.Refs.length:Int)) (W.req (0≤(w64 (i12+(1:Int)))∧(w64 (i12+(1:Int)))<(o1.Refs.length:Int)) (W.req ((x15.length+([((rd (⟨#[]⟩:BA) o1.Refs i12),(rd (⟨#[]⟩:BA) o1.Refs (w64 (i12+(1:Int)))))]:List (BA×BA)).length)*32≤140737488355328∧x15.length+([((rd (⟨#[]⟩:BA) o1.Refs i12),(rd (⟨#[]⟩:BA) o1.Refs (w64 (i12+(1:Int)))))]:List (BA×BA)).length≤140737488355328) (A2 (x15++([((rd (⟨#[]⟩:BA) o1.Refs i12),(rd (⟨#[]⟩:BA) o1.Refs (w64 (i12+(1:Int)))))]:List (BA×BA))) (w64 (i12+(1:Int))))))) (K1 x15)
def ref13_Sides.F (o1:Object):W (List (BA×BA)):=W.ite ((o1.Kind != (2:Int))&&(o1.Kind != (3:Int))) (W.ret ([]:List (BA×BA))) (W.ex fun n=>W.iter2 (ref13_Sides.l2 o1 (ref13_Sides.c1 o1)) n ([]:List (BA×BA)) (0:Int))
theorem ref13_Sides.ok {o1:Object} {Q:(List (BA×BA))→Prop} (hF:ref13_Sides.F o1 Q):Con Tryz.prog 51 [.tv kObject o1] [] (fun ta rs'=>∃ (r:(List (BA×BA))) (u0:Value),Q r∧ta=.eq u0∧rs'=[.row u0 50 (kPair kStr kStr) r]):=by
 refine Con.i Tryz.func51 Tryz.ntmps51 R R (fun C=>?_)
 unfold ref13_Sides.F at hF
 refine At.seq (At.region (At.f R (eff_box R R R (ja R)) ?_))
 rintro _ _ ⟨g1,rfl,rfl⟩
 refine At.d R R R R (jd (x:=(.eq (.slice none 0 0))) (opd_eq _)) ?_
 refine At.done (At.vf (At.seq (At.region (At.d R R R R (jd (x:=(.eq (.slice none 0 0))) (opd_eq _)) ?_))))
 refine At.done (At.vf (At.seq (At.seq (At.region (At.d R R R R (je (ja R) fa_59_1) ?_)))))
 refine At.d R R R R (jc (ja R) 0 R sub_Object_1 ty_3) ?_
 refine At.d R R R R (jk (ja R) (ji _ _) bin_neq) ?_
 refine At.d R R R R (jb (x:=(.tv kBool (o1.Kind != (2:Int)))) (ja R)) ?_
 refine At.vh R R R R (jv R) R (fun hg1=>(je (ja R) fa_59_1)) ?_
 refine At.vh R R R R (jv R) R (fun hg2=>(jc (jh R hg2) 0 R sub_Object_1 ty_3)) ?_
 refine At.vh R R R R (jv R) R (fun hg3=>(jk (jh R hg3) (ji _ _) bin_neq)) ?_
 refine At.d R R R R (jm (ja R) (ja R) (jl _) pick_and) ?_
 refine At.done (At.vf ?_)
 refine At.cond (ja R) (fun hb1=>?_) (fun hb1=>?_)
 ·replace hF:=W.ite_t hb1 hF
  refine At.seq (At.region (At.d R R R R (jd (x:=(.eq (.slice none 0 0))) (opd_eq _)) ?_))
  refine At.done (At.vf (At.ret (At.vg ?_)))
  refine At.nilrow 50 (kPair kStr kStr) ?_
  exact At.j rfl (rv_tmp rfl) [0] rfl ⟨([]:List (BA×BA)),_,hF,rfl,rfl⟩
 ·replace hF:=W.ite_f hb1 hF
  refine At.skip (At.vf ?_)
  refine At.cut (fun rs L=>∃ (x4:(List (BA×BA))) (v12:Value),ref13_Sides.c1 o1 x4 Q∧rs=[.box g1 59 kObject o1,.row v12 50 (kPair kStr kStr) x4]∧L=mkL [(1,(.eq (.pointer (some ⟨g1,0,none⟩)))),(3,(.eq v12))]) ?_ ?_
  ·refine At.seq (At.region (At.d R R R R (jd (x:=(.tv (kInt .i64) (0:Int))) (ji _ _)) ?_))
   refine At.done (At.vf (At.block ?_))
   refine At.nilrow 50 (kPair kStr kStr) ?_
   obtain ⟨n2,hF⟩:=hF
   refine At.w [1,0] R [(1,(.eq (.pointer (some ⟨g1,0,none⟩)))),(3,(.eq (.slice none 0 0))),(4,(.tv (kInt .i64) (0:Int)))] ⟨R,R,R,trivial⟩ ?_
   refine At.loop (fun m rs L=>∃ (x15:(List (BA×BA))) (v32:Value) (i12:Int),W.iter2 (ref13_Sides.l2 o1 (ref13_Sides.c1 o1)) m x15 i12 Q∧rs=[.box g1 59 kObject o1,.row v32 50 (kPair kStr kStr) x15]∧L=mkL [(1,(.eq (.pointer (some ⟨g1,0,none⟩)))),(3,(.eq v32)),(4,(.tv (kInt .i64) i12))]) ?_ ?_ (m:=n2) ⟨([]:List (BA×BA)),(.slice none 0 0),(0:Int),hF,R,R⟩
   ·rintro rs L ⟨_,_,_,hF,_,_⟩;exact hF
   ·rintro m2 _ _ ⟨x15,v32,i12,hF,rfl,rfl⟩
    replace hF:=W.iter2_s hF
    unfold ref13_Sides.l2 at hF
    refine At.seq (At.seq (At.region (At.d R R R R (jb (x:=(.tv (kInt .i64) i12)) (ja R)) ?_)))
    refine At.d R R R R (jk (ja R) (ji _ _) jz) ?_
    refine At.d R R R R (je (ja R) fa_59_3) ?_
    refine At.d R R R R (jc (ja R) 0 R sub_Object_3 ty_41) ?_
    refine At.d R R R R (jt (ja R) Tryz.underlying41) ?_
    refine At.d R R R R (jk (ja R) (ja R) vc) ?_
    refine At.done (At.vf ?_)
    refine At.cond (ja R) (fun hb13=>?_) (fun hb13=>?_)
    ·replace hF:=W.ite_t hb13 hF
     refine At.skip (At.vf (At.seq (At.block ?_)))
     refine At.draw mixed [0,1] R [[],[14]] (fun φ w hgd=>?_)
     obtain ⟨hq24,hF⟩:=hF
     obtain ⟨hq25,hF⟩:=hF
     obtain ⟨hq26,hF⟩:=hF
     refine AtH.take [0,1] hgd 0 R R R R (D':=#[Y,N,N,N,N,N,N,N,N,N,N,N,N,N,N,N]) (by kernel_rfl) (fun _ _ _ _ h=>h) R (jb (x:=(.eq v32)) (ja R)) ?_
     refine AtH.take [0] hgd 1 R R R R (D':=#[Y,Y,N,N,N,N,N,N,N,N,N,N,N,N,N,N]) (by kernel_rfl) (fun _ _ _ _ h=>h) R (je (ja R) fa_59_3) ?_
     refine AtH.take [0] hgd 2 R R R R (D':=#[Y,Y,Y,N,N,N,N,N,N,N,N,N,N,N,N,N]) (by kernel_rfl) (fun _ _ _ _ h=>h) R (jc (ja R) 0 R sub_Object_3 ty_41) ?_
     refine AtH.take [0] hgd 3 R R R R (D':=#[Y,Y,Y,Y,N,N,N,N,N,N,N,N,N,N,N,N]) (by kernel_rfl) (fun _ _ _ _ h=>h) R (jb (x:=(.tv (kInt .i64) i12)) (ja R)) ?_
     refine AtH.take [0] hgd 4 R R R R (D':=#[Y,Y,Y,Y,Y,N,N,N,N,N,N,N,N,N,N,N]) (by kernel_rfl) (fun _ _ _ _ h=>h) R (vd (⟨#[]⟩:BA) (ja R) (ja R) Tryz.underlying41 ty_9 hq24) ?_
     refine AtH.take [0] hgd 5 R R R R (D':=#[Y,Y,Y,Y,Y,Y,N,N,N,N,N,N,N,N,N,N]) (by kernel_rfl) (fun _ _ _ _ h=>h) R (vo (K:=kStr) (ja R) ty_9) ?_
     refine AtH.take [0] hgd 6 R R R R (D':=#[Y,Y,Y,Y,Y,Y,Y,N,N,N,N,N,N,N,N,N]) (by kernel_rfl) (fun _ _ _ _ h=>h) R (je (ja R) fa_59_3) ?_
     refine AtH.take [0] hgd 7 R R R R (D':=#[Y,Y,Y,Y,Y,Y,Y,Y,N,N,N,N,N,N,N,N]) (by kernel_rfl) (fun _ _ _ _ h=>h) R (jc (ja R) 0 R sub_Object_3 ty_41) ?_
     refine AtH.take [0] hgd 8 R R R R (D':=#[Y,Y,Y,Y,Y,Y,Y,Y,Y,N,N,N,N,N,N,N]) (by kernel_rfl) (fun _ _ _ _ h=>h) R (jb (x:=(.tv (kInt .i64) i12)) (ja R)) ?_
     refine AtH.take [0] hgd 9 R R R R (D':=#[Y,Y,Y,Y,Y,Y,Y,Y,Y,Y,N,N,N,N,N,N]) (by kernel_rfl) (fun _ _ _ _ h=>h) R (jk (ja R) (ji _ _) jz) ?_
     refine AtH.take [0] hgd 10 R R R R (D':=#[Y,Y,Y,Y,Y,Y,Y,Y,Y,Y,Y,N,N,N,N,N]) (by kernel_rfl) (fun _ _ _ _ h=>h) R (vd (⟨#[]⟩:BA) (ja R) (ja R) Tryz.underlying41 ty_9 hq25) ?_
     refine AtH.take [0] hgd 11 R R R R (D':=#[Y,Y,Y,Y,Y,Y,Y,Y,Y,Y,Y,Y,N,N,N,N]) (by kernel_rfl) (fun _ _ _ _ h=>h) R (vo (K:=kStr) (ja R) ty_9) ?_
     refine AtH.take [0] hgd 12 R R R R (D':=#[Y,Y,Y,Y,Y,Y,Y,Y,Y,Y,Y,Y,Y,N,N,N]) (by kernel_rfl) (fun _ _ _ _ h=>h) R (jy (jr (ja R) (jr (ja R) js)) zr_50 bd_50 R (fills_cons R sub_a50_0 (fills_cons R sub_a50_1 fills_nil))) ?_
     refine AtH.all1 13 (by kernel_rfl) ?_
     refine AtH.f [(0,0),(1,1)] R R R R R R (eff_lit R R R (os:=[.tmp 34]) R sl_51 (xs:=([((rd (⟨#[]⟩:BA) o1.Refs i12),(rd (⟨#[]⟩:BA) o1.Refs (w64 (i12+(1:Int)))))]:List (BA×BA))) (jf (ja R) jg) R R) (D':=#[Y,Y,Y,Y,Y,Y,Y,Y,Y,Y,Y,Y,Y,Y,N,N]) (by kernel_rfl) (by kernel_rfl) ?_
     rintro _ _ ⟨v35,rfl,rfl⟩
     refine ⟨_,.inr ⟨R,flat_eq⟩,?_⟩
     refine AtH.all1 14 (by kernel_rfl) ?_
     refine AtH.f [(0,1)] R R R R R R (eff_append_row R R R 2 0 R R (ja R) (ja R) sl_51 hq26) (D':=#[Y,Y,Y,Y,Y,Y,Y,Y,Y,Y,Y,Y,Y,Y,Y,N]) (by kernel_rfl) (by kernel_rfl) ?_
     rintro _ _ ⟨v36,rfl,rfl⟩
     refine ⟨_,.inr ⟨R,flat_eq⟩,?_⟩
     refine AtH.take [0] hgd 15 R R R R (D':=#[Y,Y,Y,Y,Y,Y,Y,Y,Y,Y,Y,Y,Y,Y,Y,Y]) (by kernel_rfl) (fun _ _ _ _ h=>h) R (jd (x:=(.eq v36)) (ja R)) ?_
     refine AtH.done (by kernel_rfl) ?_
     refine At.n ?_
     refine At.vf (At.region (At.d R R R R (jb (x:=(.tv (kInt .i64) i12)) (ja R)) ?_))
     refine At.d R R R R (jk (ja R) (ji _ _) jz) ?_
     refine At.d R R R R (jd (x:=(.tv (kInt .i64) (w64 (i12+(1:Int))))) (ja R)) ?_
     refine At.done (At.vf ?_)
     refine At.w [1,2] R [(1,(.eq (.pointer (some ⟨g1,0,none⟩)))),(3,(.eq v36)),(4,(.tv (kInt .i64) (w64 (i12+(1:Int)))))] ⟨R,R,R,trivial⟩ (At.r ⟨(x15++([((rd (⟨#[]⟩:BA) o1.Refs i12),(rd (⟨#[]⟩:BA) o1.Refs (w64 (i12+(1:Int)))))]:List (BA×BA))),v36,(w64 (i12+(1:Int))),hF,R,R⟩)
    ·replace hF:=W.ite_f hb13 hF
     refine At.exit ?_
     refine At.x (At.x ?_)
     refine At.h ?_
     refine At.vf ?_
     refine At.w [0,1] R [(1,(.eq (.pointer (some ⟨g1,0,none⟩)))),(3,(.eq v32))] ⟨R,R,trivial⟩ (At.r ⟨x15,v32,hF,R,R⟩)
  ·rintro _ _ ⟨x4,v12,hF,rfl,rfl⟩
   unfold ref13_Sides.c1 at hF
   refine At.cut (fun rs L=>∃ (x5:(List (BA×BA))) (v17:Value),ref13_Sides.c2 x5 Q∧rs=[.row v17 50 (kPair kStr kStr) x5]∧L=mkL [(3,(.eq v17))]) ?_ ?_
   ·refine At.seq (At.region (At.d R R R R (je (ja R) fa_59_1) ?_))
    refine At.d R R R R (jc (ja R) 0 R sub_Object_1 ty_3) ?_
    refine At.d R R R R (jk (ja R) (ji _ _) bin_eql) ?_
    refine At.done (At.vf ?_)
    refine At.cond (ja R) (fun hb10=>?_) (fun hb10=>?_)
    ·replace hF:=W.ite_t hb10 hF
     refine At.draw mixed [0,1] R [[],[15]] (fun φ w hgd=>?_)
     obtain ⟨hq15,hF⟩:=hF
     obtain ⟨hq16,hF⟩:=hF
     obtain ⟨hq17,hF⟩:=hF
     refine AtH.take [0,1] hgd 0 R R R R (D':=#[Y,N,N,N,N,N,N,N,N,N,N,N,N,N,N,N,N]) (by kernel_rfl) (fun _ _ _ _ h=>h) R (jb (x:=(.eq v12)) (ja R)) ?_
     refine AtH.take [0] hgd 1 R R R R (D':=#[Y,Y,N,N,N,N,N,N,N,N,N,N,N,N,N,N,N]) (by kernel_rfl) (fun _ _ _ _ h=>h) R (je (ja R) fa_59_3) ?_
     refine AtH.take [0] hgd 2 R R R R (D':=#[Y,Y,Y,N,N,N,N,N,N,N,N,N,N,N,N,N,N]) (by kernel_rfl) (fun _ _ _ _ h=>h) R (jc (ja R) 0 R sub_Object_3 ty_41) ?_
     refine AtH.take [0] hgd 3 R R R R (D':=#[Y,Y,Y,Y,N,N,N,N,N,N,N,N,N,N,N,N,N]) (by kernel_rfl) (fun _ _ _ _ h=>h) R (je (ja R) fa_59_3) ?_
     refine AtH.take [0] hgd 4 R R R R (D':=#[Y,Y,Y,Y,Y,N,N,N,N,N,N,N,N,N,N,N,N]) (by kernel_rfl) (fun _ _ _ _ h=>h) R (jc (ja R) 0 R sub_Object_3 ty_41) ?_
     refine AtH.take [0] hgd 5 R R R R (D':=#[Y,Y,Y,Y,Y,Y,N,N,N,N,N,N,N,N,N,N,N]) (by kernel_rfl) (fun _ _ _ _ h=>h) R (jt (ja R) Tryz.underlying41) ?_
     refine AtH.take [0] hgd 6 R R R R (D':=#[Y,Y,Y,Y,Y,Y,Y,N,N,N,N,N,N,N,N,N,N]) (by kernel_rfl) (fun _ _ _ _ h=>h) R (jk (ja R) (ji _ _) bin_sub) ?_
     refine AtH.take [0] hgd 7 R R R R (D':=#[Y,Y,Y,Y,Y,Y,Y,Y,N,N,N,N,N,N,N,N,N]) (by kernel_rfl) (fun _ _ _ _ h=>h) R (vd (⟨#[]⟩:BA) (ja R) (ja R) Tryz.underlying41 ty_9 hq15) ?_
     refine AtH.take [0] hgd 8 R R R R (D':=#[Y,Y,Y,Y,Y,Y,Y,Y,Y,N,N,N,N,N,N,N,N]) (by kernel_rfl) (fun _ _ _ _ h=>h) R (vo (K:=kStr) (ja R) ty_9) ?_
     refine AtH.take [0] hgd 9 R R R R (D':=#[Y,Y,Y,Y,Y,Y,Y,Y,Y,Y,N,N,N,N,N,N,N]) (by kernel_rfl) (fun _ _ _ _ h=>h) R (je (ja R) fa_59_3) ?_
     refine AtH.take [0] hgd 10 R R R R (D':=#[Y,Y,Y,Y,Y,Y,Y,Y,Y,Y,Y,N,N,N,N,N,N]) (by kernel_rfl) (fun _ _ _ _ h=>h) R (jc (ja R) 0 R sub_Object_3 ty_41) ?_
     refine AtH.take [0] hgd 11 R R R R (D':=#[Y,Y,Y,Y,Y,Y,Y,Y,Y,Y,Y,Y,N,N,N,N,N]) (by kernel_rfl) (fun _ _ _ _ h=>h) R (vd (⟨#[]⟩:BA) (ja R) (ji _ _) Tryz.underlying41 ty_9 hq16) ?_
     refine AtH.take [0] hgd 12 R R R R (D':=#[Y,Y,Y,Y,Y,Y,Y,Y,Y,Y,Y,Y,Y,N,N,N,N]) (by kernel_rfl) (fun _ _ _ _ h=>h) R (vo (K:=kStr) (ja R) ty_9) ?_
     refine AtH.take [0] hgd 13 R R R R (D':=#[Y,Y,Y,Y,Y,Y,Y,Y,Y,Y,Y,Y,Y,Y,N,N,N]) (by kernel_rfl) (fun _ _ _ _ h=>h) R (jy (jr (ja R) (jr (ja R) js)) zr_50 bd_50 R (fills_cons R sub_a50_0 (fills_cons R sub_a50_1 fills_nil))) ?_
     refine AtH.all1 14 (by kernel_rfl) ?_
     refine AtH.f [(0,0),(1,1)] R R R R R R (eff_lit R R R (os:=[.tmp 53]) R sl_51 (xs:=([((rd (⟨#[]⟩:BA) o1.Refs (w64 ((o1.Refs.length:Int)-(1:Int)))),(rd (⟨#[]⟩:BA) o1.Refs (0:Int)))]:List (BA×BA))) (jf (ja R) jg) R R) (D':=#[Y,Y,Y,Y,Y,Y,Y,Y,Y,Y,Y,Y,Y,Y,Y,N,N]) (by kernel_rfl) (by kernel_rfl) ?_
     rintro _ _ ⟨v20,rfl,rfl⟩
     refine ⟨_,.inr ⟨R,flat_eq⟩,?_⟩
     refine AtH.all1 15 (by kernel_rfl) ?_
     refine AtH.f [(0,1)] R R R R R R (eff_append_row R R R 2 0 R R (ja R) (ja R) sl_51 hq17) (D':=#[Y,Y,Y,Y,Y,Y,Y,Y,Y,Y,Y,Y,Y,Y,Y,Y,N]) (by kernel_rfl) (by kernel_rfl) ?_
     rintro _ _ ⟨v21,rfl,rfl⟩
     refine ⟨_,.inr ⟨R,flat_eq⟩,?_⟩
     refine AtH.take [0] hgd 16 R R R R (D':=#[Y,Y,Y,Y,Y,Y,Y,Y,Y,Y,Y,Y,Y,Y,Y,Y,Y]) (by kernel_rfl) (fun _ _ _ _ h=>h) R (jd (x:=(.eq v21)) (ja R)) ?_
     refine AtH.done (by kernel_rfl) ?_
     refine At.vf ?_
     refine At.w [2] R [(3,(.eq v21))] ⟨R,trivial⟩ (At.r ⟨(x4++([((rd (⟨#[]⟩:BA) o1.Refs (w64 ((o1.Refs.length:Int)-(1:Int)))),(rd (⟨#[]⟩:BA) o1.Refs (0:Int)))]:List (BA×BA))),v21,hF,R,R⟩)
    ·replace hF:=W.ite_f hb10 hF
     refine At.skip (At.vf ?_)
     refine At.w [1] R [(3,(.eq v12))] ⟨R,trivial⟩ (At.r ⟨x4,v12,hF,R,R⟩)
   ·rintro _ _ ⟨x5,v17,hF,rfl,rfl⟩
    unfold ref13_Sides.c2 at hF
    refine At.cut (fun rs L=>∃ (x9:(List (BA×BA))),ref13_Sides.c3 x9 Q∧rs=[.row v17 50 (kPair kStr kStr) x9]∧L=mkL [(3,(.eq v17))]) ?_ ?_
    ·refine At.seq (At.region (At.d R R R R (jd (x:=(.tv (kInt .i64) (0:Int))) (ji _ _)) ?_))
     refine At.done (At.vf (At.block ?_))
     obtain ⟨n1,hF⟩:=hF
     refine At.w [0] R [(3,(.eq v17)),(5,(.tv (kInt .i64) (0:Int)))] ⟨R,R,trivial⟩ ?_
     refine At.loop (fun m rs L=>∃ (x12:(List (BA×BA))) (i9:Int),W.iter2 (ref13_Sides.l1 (ref13_Sides.c3)) m x12 i9 Q∧rs=[.row v17 50 (kPair kStr kStr) x12]∧L=mkL [(3,(.eq v17)),(5,(.tv (kInt .i64) i9))]) ?_ ?_ (m:=n1) ⟨x5,(0:Int),hF,R,R⟩
     ·rintro rs L ⟨_,_,hF,_,_⟩;exact hF
     ·rintro m1 _ _ ⟨x12,i9,hF,rfl,rfl⟩
      replace hF:=W.iter2_s hF
      unfold ref13_Sides.l1 at hF
      refine At.seq (At.seq (At.region (At.d R R R R (jb (x:=(.tv (kInt .i64) i9)) (ja R)) ?_)))
      refine At.d R R R R (jb (x:=(.eq v17)) (ja R)) ?_
      refine At.d R R R R (does_len_row (ja R) 0 R Tryz.underlying51) ?_
      refine At.d R R R R (jk (ja R) (ja R) vc) ?_
      refine At.done (At.vf ?_)
      refine At.cond (ja R) (fun hb9=>?_) (fun hb9=>?_)
      ·replace hF:=W.ite_t hb9 hF
       refine At.skip (At.vf (At.seq (At.block ?_)))
       refine At.draw mixed [0] R [[26]] (fun φ w hgd=>?_)
       obtain ⟨hq14,hF⟩:=hF
       refine AtH.take [0] hgd 0 R R R R (D':=#[Y,N,N,N,N,N,N,N,N,N,N,N,N,N,N,N,N,N,N,N,N,N,N,N,N,N,N]) (by kernel_rfl) (fun _ _ _ _ h=>h) R (jb (x:=(.eq v17)) (ja R)) ?_
       refine AtH.take [0] hgd 1 R R R R (D':=#[Y,Y,N,N,N,N,N,N,N,N,N,N,N,N,N,N,N,N,N,N,N,N,N,N,N,N,N]) (by kernel_rfl) (fun _ _ _ _ h=>h) R (jb (x:=(.tv (kInt .i64) i9)) (ja R)) ?_
       refine AtH.take [0] hgd 2 R R R R (D':=#[Y,Y,Y,N,N,N,N,N,N,N,N,N,N,N,N,N,N,N,N,N,N,N,N,N,N,N,N]) (by kernel_rfl) (fun _ _ _ _ h=>h) R (jb (x:=(.eq v17)) (ja R)) ?_
       refine AtH.take [0] hgd 3 R R R R (D':=#[Y,Y,Y,Y,N,N,N,N,N,N,N,N,N,N,N,N,N,N,N,N,N,N,N,N,N,N,N]) (by kernel_rfl) (fun _ _ _ _ h=>h) R (jb (x:=(.tv (kInt .i64) i9)) (ja R)) ?_
       refine AtH.take [0] hgd 4 R R R R (D':=#[Y,Y,Y,Y,Y,N,N,N,N,N,N,N,N,N,N,N,N,N,N,N,N,N,N,N,N,N,N]) (by kernel_rfl) (fun _ _ _ _ h=>h) R (does_idx_row (ja R) 0 R (ja R) Tryz.underlying51 ty_50 hq14) ?_
       refine AtH.take [0] hgd 5 R R R R (D':=#[Y,Y,Y,Y,Y,Y,N,N,N,N,N,N,N,N,N,N,N,N,N,N,N,N,N,N,N,N,N]) (by kernel_rfl) (fun _ _ _ _ h=>h) R (does_aidx_elem (ja R) (ji _ _) ia_50_0) ?_
       refine AtH.take [0] hgd 6 R R R R (D':=#[Y,Y,Y,Y,Y,Y,Y,N,N,N,N,N,N,N,N,N,N,N,N,N,N,N,N,N,N,N,N]) (by kernel_rfl) (fun _ _ _ _ h=>h) R (Ja (ja R) 0 R i9 0 R ((⟨#[]⟩:BA),(⟨#[]⟩:BA)) hq14 sub_a50_0 ty_9) ?_
       refine AtH.take [0] hgd 7 R R R R (D':=#[Y,Y,Y,Y,Y,Y,Y,Y,N,N,N,N,N,N,N,N,N,N,N,N,N,N,N,N,N,N,N]) (by kernel_rfl) (fun _ _ _ _ h=>h) R (jb (x:=(.eq v17)) (ja R)) ?_
       refine AtH.take [0] hgd 8 R R R R (D':=#[Y,Y,Y,Y,Y,Y,Y,Y,Y,N,N,N,N,N,N,N,N,N,N,N,N,N,N,N,N,N,N]) (by kernel_rfl) (fun _ _ _ _ h=>h) R (jb (x:=(.tv (kInt .i64) i9)) (ja R)) ?_
       refine AtH.take [0] hgd 9 R R R R (D':=#[Y,Y,Y,Y,Y,Y,Y,Y,Y,Y,N,N,N,N,N,N,N,N,N,N,N,N,N,N,N,N,N]) (by kernel_rfl) (fun _ _ _ _ h=>h) R (does_idx_row (ja R) 0 R (ja R) Tryz.underlying51 ty_50 hq14) ?_
       refine AtH.take [0] hgd 10 R R R R (D':=#[Y,Y,Y,Y,Y,Y,Y,Y,Y,Y,Y,N,N,N,N,N,N,N,N,N,N,N,N,N,N,N,N]) (by kernel_rfl) (fun _ _ _ _ h=>h) R (does_aidx_elem (ja R) (ji _ _) ia_50_1) ?_
       refine AtH.take [0] hgd 11 R R R R (D':=#[Y,Y,Y,Y,Y,Y,Y,Y,Y,Y,Y,Y,N,N,N,N,N,N,N,N,N,N,N,N,N,N,N]) (by kernel_rfl) (fun _ _ _ _ h=>h) R (Ja (ja R) 0 R i9 1 R ((⟨#[]⟩:BA),(⟨#[]⟩:BA)) hq14 sub_a50_1 ty_9) ?_
       refine AtH.take [0] hgd 12 R R R R (D':=#[Y,Y,Y,Y,Y,Y,Y,Y,Y,Y,Y,Y,Y,N,N,N,N,N,N,N,N,N,N,N,N,N,N]) (by kernel_rfl) (fun _ _ _ _ h=>h) R (does_smin (ja R) (ja R)) ?_
       refine AtH.take [0] hgd 13 R R R R (D':=#[Y,Y,Y,Y,Y,Y,Y,Y,Y,Y,Y,Y,Y,Y,N,N,N,N,N,N,N,N,N,N,N,N,N]) (by kernel_rfl) (fun _ _ _ _ h=>h) R (jb (x:=(.eq v17)) (ja R)) ?_
       refine AtH.take [0] hgd 14 R R R R (D':=#[Y,Y,Y,Y,Y,Y,Y,Y,Y,Y,Y,Y,Y,Y,Y,N,N,N,N,N,N,N,N,N,N,N,N]) (by kernel_rfl) (fun _ _ _ _ h=>h) R (jb (x:=(.tv (kInt .i64) i9)) (ja R)) ?_
       refine AtH.take [0] hgd 15 R R R R (D':=#[Y,Y,Y,Y,Y,Y,Y,Y,Y,Y,Y,Y,Y,Y,Y,Y,N,N,N,N,N,N,N,N,N,N,N]) (by kernel_rfl) (fun _ _ _ _ h=>h) R (does_idx_row (ja R) 0 R (ja R) Tryz.underlying51 ty_50 hq14) ?_
       refine AtH.take [0] hgd 16 R R R R (D':=#[Y,Y,Y,Y,Y,Y,Y,Y,Y,Y,Y,Y,Y,Y,Y,Y,Y,N,N,N,N,N,N,N,N,N,N]) (by kernel_rfl) (fun _ _ _ _ h=>h) R (does_aidx_elem (ja R) (ji _ _) ia_50_0) ?_
       refine AtH.take [0] hgd 17 R R R R (D':=#[Y,Y,Y,Y,Y,Y,Y,Y,Y,Y,Y,Y,Y,Y,Y,Y,Y,Y,N,N,N,N,N,N,N,N,N]) (by kernel_rfl) (fun _ _ _ _ h=>h) R (Ja (ja R) 0 R i9 0 R ((⟨#[]⟩:BA),(⟨#[]⟩:BA)) hq14 sub_a50_0 ty_9) ?_
       refine AtH.take [0] hgd 18 R R R R (D':=#[Y,Y,Y,Y,Y,Y,Y,Y,Y,Y,Y,Y,Y,Y,Y,Y,Y,Y,Y,N,N,N,N,N,N,N,N]) (by kernel_rfl) (fun _ _ _ _ h=>h) R (jb (x:=(.eq v17)) (ja R)) ?_
       refine AtH.take [0] hgd 19 R R R R (D':=#[Y,Y,Y,Y,Y,Y,Y,Y,Y,Y,Y,Y,Y,Y,Y,Y,Y,Y,Y,Y,N,N,N,N,N,N,N]) (by kernel_rfl) (fun _ _ _ _ h=>h) R (jb (x:=(.tv (kInt .i64) i9)) (ja R)) ?_
       refine AtH.take [0] hgd 20 R R R R (D':=#[Y,Y,Y,Y,Y,Y,Y,Y,Y,Y,Y,Y,Y,Y,Y,Y,Y,Y,Y,Y,Y,N,N,N,N,N,N]) (by kernel_rfl) (fun _ _ _ _ h=>h) R (does_idx_row (ja R) 0 R (ja R) Tryz.underlying51 ty_50 hq14) ?_
       refine AtH.take [0] hgd 21 R R R R (D':=#[Y,Y,Y,Y,Y,Y,Y,Y,Y,Y,Y,Y,Y,Y,Y,Y,Y,Y,Y,Y,Y,Y,N,N,N,N,N]) (by kernel_rfl) (fun _ _ _ _ h=>h) R (does_aidx_elem (ja R) (ji _ _) ia_50_1) ?_
       refine AtH.take [0] hgd 22 R R R R (D':=#[Y,Y,Y,Y,Y,Y,Y,Y,Y,Y,Y,Y,Y,Y,Y,Y,Y,Y,Y,Y,Y,Y,Y,N,N,N,N]) (by kernel_rfl) (fun _ _ _ _ h=>h) R (Ja (ja R) 0 R i9 1 R ((⟨#[]⟩:BA),(⟨#[]⟩:BA)) hq14 sub_a50_1 ty_9) ?_
       refine AtH.take [0] hgd 23 R R R R (D':=#[Y,Y,Y,Y,Y,Y,Y,Y,Y,Y,Y,Y,Y,Y,Y,Y,Y,Y,Y,Y,Y,Y,Y,Y,N,N,N]) (by kernel_rfl) (fun _ _ _ _ h=>h) R (does_smax (ja R) (ja R)) ?_
       refine AtH.take [0] hgd 24 R R R R (D':=#[Y,Y,Y,Y,Y,Y,Y,Y,Y,Y,Y,Y,Y,Y,Y,Y,Y,Y,Y,Y,Y,Y,Y,Y,Y,N,N]) (by kernel_rfl) (fun _ _ _ _ h=>h) R (jy (jr (ja R) (jr (ja R) js)) zr_50 bd_50 R (fills_cons R sub_a50_0 (fills_cons R sub_a50_1 fills_nil))) ?_
       refine AtH.take [0] hgd 25 R R R R (D':=#[Y,Y,Y,Y,Y,Y,Y,Y,Y,Y,Y,Y,Y,Y,Y,Y,Y,Y,Y,Y,Y,Y,Y,Y,Y,Y,N]) (by kernel_rfl) (fun _ _ _ _ h=>h) R (does_idx_row (ja R) 0 R (ja R) Tryz.underlying51 ty_50 hq14) ?_
       refine AtH.all1 26 (by kernel_rfl) ?_
       refine AtH.eff0 [] R R R R R (eff_store_elem R R (ja R) 0 R i9 0 R ((⟨#[]⟩:BA),(⟨#[]⟩:BA)) hq14 (Sub.self (kPair kStr kStr)) ty_50 (ja R)) (D':=#[Y,Y,Y,Y,Y,Y,Y,Y,Y,Y,Y,Y,Y,Y,Y,Y,Y,Y,Y,Y,Y,Y,Y,Y,Y,Y,Y]) (by kernel_rfl) (by kernel_rfl) ?_
       rintro _ _ ⟨rfl,rfl⟩
       refine AtH.done (by kernel_rfl) ?_
       refine At.n ?_
       refine At.vf (At.region (At.d R R R R (jb (x:=(.tv (kInt .i64) i9)) (ja R)) ?_))
       refine At.d R R R R (jk (ja R) (ji _ _) jz) ?_
       refine At.d R R R R (jd (x:=(.tv (kInt .i64) (w64 (i9+(1:Int))))) (ja R)) ?_
       refine At.done (At.vf ?_)
       refine At.w [0] R [(3,(.eq v17)),(5,(.tv (kInt .i64) (w64 (i9+(1:Int)))))] ⟨R,R,trivial⟩ (At.r ⟨(x12.set i9.toNat ((sMin ((rd ((⟨#[]⟩:BA),(⟨#[]⟩:BA)) x12 i9).1) ((rd ((⟨#[]⟩:BA),(⟨#[]⟩:BA)) x12 i9).2)),(sMax ((rd ((⟨#[]⟩:BA),(⟨#[]⟩:BA)) x12 i9).1) ((rd ((⟨#[]⟩:BA),(⟨#[]⟩:BA)) x12 i9).2)))),(w64 (i9+(1:Int))),hF,R,R⟩)
      ·replace hF:=W.ite_f hb9 hF
       refine At.exit ?_
       refine At.x (At.x ?_)
       refine At.h ?_
       refine At.vf ?_
       refine At.w [0] R [(3,(.eq v17))] ⟨R,trivial⟩ (At.r ⟨x12,hF,R,R⟩)
    ·rintro _ _ ⟨x9,hF,rfl,rfl⟩
     unfold ref13_Sides.c3 at hF
     refine At.seq (At.region (At.d R R R R (jb (x:=(.eq v17)) (ja R)) ?_))
     refine At.d R R R R (jd (x:=(.eq v17)) (ja R)) ?_
     refine At.done (At.vf (At.ret ?_))
     exact At.j rfl (rv_tmp rfl) [0] rfl ⟨x9,_,hF,rfl,rfl⟩
def ref13_Find.c1 (m1:Map) (id1:BA) (from4:Int):W Int:=W.req ((decide (from4<(m1.Objects.length:Int)))=true→0≤from4∧from4<(m1.Objects.length:Int)) (W.ite ((decide (from4<(m1.Objects.length:Int)))&&(sEq ((rd zObject m1.Objects from4).Id) id1)) (W.ret from4) (W.ret (-1:Int)))
def ref13_Find.l1 (m1:Map) (id1:BA) (K1:Int→W Int) (A1:Int→Int→W Int) (from7:Int) (to6:Int):W Int:=W.ite (decide (from7<to6)) (W.req (0≤(w64 (Int.tdiv (w64 (from7+to6)) (2:Int)))∧(w64 (Int.tdiv (w64 (from7+to6)) (2:Int)))<(m1.Objects.length:Int)) (W.ite (sLt ((rd zObject m1.Objects (w64 (Int.tdiv (w64 (from7+to6)) (2:Int)))).Id) id1) (A1 (w64 ((w64 (Int.tdiv (w64 (from7+to6)) (2:Int)))+(1:Int))) to6) (A1 from7 (w64 (Int.tdiv (w64 (from7+to6)) (2:Int)))))) (K1 from7)
def ref13_Find.F (m1:Map) (id1:BA):W Int:=W.ex fun n=>W.iter2 (ref13_Find.l1 m1 id1 (ref13_Find.c1 m1 id1)) n (0:Int) (m1.Objects.length:Int)
theorem ref13_Find.ok {m1:Map} {id1:BA} {Q:Int→Prop} (hF:ref13_Find.F m1 id1 Q):Con Tryz.prog 87 [.tv kMap m1,.tv kStr id1] [] (fun ta rs'=>∃ (r:Int),Q r∧ta=.tv (kInt .i64) r∧rs'=[]):=by
 refine Con.i Tryz.func87 Tryz.ntmps87 R R (fun C=>?_)
 unfold ref13_Find.F at hF
 refine At.seq (At.region (At.f R (eff_box R R R (ja R)) ?_))
 rintro _ _ ⟨g1,rfl,rfl⟩
 refine At.d R R R R (jd (x:=(.tv (kInt .i64) (0:Int))) (ji _ _)) ?_
 refine At.done (At.vf (At.seq (At.region (At.d R R R R (jd (x:=(.tv (kInt .i64) (0:Int))) (ji _ _)) ?_))))
 refine At.done (At.vf (At.seq (At.region (At.d R R R R (je (ja R) fa_24_0) ?_))))
 refine At.d R R R R (jc (ja R) 0 R sub_Map_0 ty_22) ?_
 refine At.d R R R R (jt (ja R) Tryz.underlying22) ?_
 refine At.d R R R R (jd (x:=(.tv (kInt .i64) (m1.Objects.length:Int))) (ja R)) ?_
 refine At.done (At.vf ?_)
 refine At.cut (fun rs L=>∃ (from4:Int),ref13_Find.c1 m1 id1 from4 Q∧rs=[.box g1 24 kMap m1]∧L=mkL [(1,(.tv kStr id1)),(2,(.eq (.pointer (some ⟨g1,0,none⟩)))),(5,(.tv (kInt .i64) from4))]) ?_ ?_
 ·refine At.block ?_
  obtain ⟨n1,hF⟩:=hF
  refine At.w [0] R [(1,(.tv kStr id1)),(2,(.eq (.pointer (some ⟨g1,0,none⟩)))),(5,(.tv (kInt .i64) (0:Int))),(6,(.tv (kInt .i64) (m1.Objects.length:Int)))] ⟨R,R,R,R,trivial⟩ ?_
  refine At.loop (fun m rs L=>∃ (from7:Int) (to6:Int),W.iter2 (ref13_Find.l1 m1 id1 (ref13_Find.c1 m1 id1)) m from7 to6 Q∧rs=[.box g1 24 kMap m1]∧L=mkL [(1,(.tv kStr id1)),(2,(.eq (.pointer (some ⟨g1,0,none⟩)))),(5,(.tv (kInt .i64) from7)),(6,(.tv (kInt .i64) to6))]) ?_ ?_ (m:=n1) ⟨(0:Int),(m1.Objects.length:Int),hF,R,R⟩
  ·rintro rs L ⟨_,_,hF,_,_⟩;exact hF
  ·rintro m2 _ _ ⟨from7,to6,hF,rfl,rfl⟩
   replace hF:=W.iter2_s hF
   unfold ref13_Find.l1 at hF
   refine At.seq (At.seq (At.region (At.d R R R R (jb (x:=(.tv (kInt .i64) from7)) (ja R)) ?_)))
   refine At.d R R R R (jb (x:=(.tv (kInt .i64) to6)) (ja R)) ?_
   refine At.d R R R R (jk (ja R) (ja R) vc) ?_
   refine At.done (At.vf ?_)
   refine At.cond (ja R) (fun hb10=>?_) (fun hb10=>?_)
   ·replace hF:=W.ite_t hb10 hF
    refine At.skip (At.vf (At.block (At.seq (At.region (At.d R R R R (jb (x:=(.tv (kInt .i64) from7)) (ja R)) ?_)))))
    refine At.d R R R R (jb (x:=(.tv (kInt .i64) to6)) (ja R)) ?_
    refine At.d R R R R (jk (ja R) (ja R) jz) ?_
    refine At.d R R R R (jk (ja R) (ji _ _) (bin_quo (by decide))) ?_
    refine At.d R R R R (jd (x:=(.tv (kInt .i64) (w64 (Int.tdiv (w64 (from7+to6)) (2:Int))))) (ja R)) ?_
    refine At.done (At.vf (At.seq (At.region (At.d R R R R (je (ja R) fa_24_0) ?_))))
    refine At.d R R R R (jc (ja R) 0 R sub_Map_0 ty_22) ?_
    refine At.d R R R R (jb (x:=(.tv (kInt .i64) (w64 (Int.tdiv (w64 (from7+to6)) (2:Int))))) (ja R)) ?_
    obtain ⟨hq6,hF⟩:=hF
    refine At.d R R R R (vd zObject (ja R) (ja R) Tryz.underlying22 ty_59 hq6) ?_
    refine At.d R R R R (Jb (K:=kObject) (ja R) fa_59_0 sub_Object_0) ?_
    refine At.d R R R R (vo (K:=kStr) (ja R) ty_9) ?_
    refine At.d R R R R (jb (x:=(.tv kStr id1)) (ja R)) ?_
    refine At.d R R R R (jk (ja R) (ja R) bin_slss) ?_
    refine At.done (At.vf ?_)
    refine At.cond (ja R) (fun hb11=>?_) (fun hb11=>?_)
    ·replace hF:=W.ite_t hb11 hF
     refine At.region (At.d R R R R (jb (x:=(.tv (kInt .i64) (w64 (Int.tdiv (w64 (from7+to6)) (2:Int))))) (ja R)) ?_)
     refine At.d R R R R (jk (ja R) (ji _ _) jz) ?_
     refine At.d R R R R (jd (x:=(.tv (kInt .i64) (w64 ((w64 (Int.tdiv (w64 (from7+to6)) (2:Int)))+(1:Int))))) (ja R)) ?_
     refine At.done ?_
     refine At.n ?_
     refine At.vf ?_
     refine At.w [0] R [(1,(.tv kStr id1)),(2,(.eq (.pointer (some ⟨g1,0,none⟩)))),(5,(.tv (kInt .i64) (w64 ((w64 (Int.tdiv (w64 (from7+to6)) (2:Int)))+(1:Int))))),(6,(.tv (kInt .i64) to6))] ⟨R,R,R,R,trivial⟩ (At.r ⟨(w64 ((w64 (Int.tdiv (w64 (from7+to6)) (2:Int)))+(1:Int))),to6,hF,R,R⟩)
    ·replace hF:=W.ite_f hb11 hF
     refine At.region (At.d R R R R (jb (x:=(.tv (kInt .i64) (w64 (Int.tdiv (w64 (from7+to6)) (2:Int))))) (ja R)) ?_)
     refine At.d R R R R (jd (x:=(.tv (kInt .i64) (w64 (Int.tdiv (w64 (from7+to6)) (2:Int))))) (ja R)) ?_
     refine At.done ?_
     refine At.n ?_
     refine At.vf ?_
     refine At.w [0] R [(1,(.tv kStr id1)),(2,(.eq (.pointer (some ⟨g1,0,none⟩)))),(5,(.tv (kInt .i64) from7)),(6,(.tv (kInt .i64) (w64 (Int.tdiv (w64 (from7+to6)) (2:Int)))))] ⟨R,R,R,R,trivial⟩ (At.r ⟨from7,(w64 (Int.tdiv (w64 (from7+to6)) (2:Int))),hF,R,R⟩)
   ·replace hF:=W.ite_f hb10 hF
    refine At.exit ?_
    refine At.x (At.x ?_)
    refine At.h ?_
    refine At.vf ?_
    refine At.w [0] R [(1,(.tv kStr id1)),(2,(.eq (.pointer (some ⟨g1,0,none⟩)))),(5,(.tv (kInt .i64) from7))] ⟨R,R,R,trivial⟩ (At.r ⟨from7,hF,R,R⟩)
 ·rintro _ _ ⟨from4,hF,rfl,rfl⟩
  unfold ref13_Find.c1 at hF
  refine At.seq (At.seq (At.region (At.d R R R R (jb (x:=(.tv (kInt .i64) from4)) (ja R)) ?_)))
  refine At.d R R R R (je (ja R) fa_24_0) ?_
  refine At.d R R R R (jc (ja R) 0 R sub_Map_0 ty_22) ?_
  refine At.d R R R R (jt (ja R) Tryz.underlying22) ?_
  refine At.d R R R R (jk (ja R) (ja R) vc) ?_
  refine At.d R R R R (jb (x:=(.tv kBool (decide (from4<(m1.Objects.length:Int))))) (ja R)) ?_
  refine At.vh R R R R (jv R) R (fun hg1=>(je (ja R) fa_24_0)) ?_
  refine At.vh R R R R (jv R) R (fun hg2=>(jc (jh R hg2) 0 R sub_Map_0 ty_22)) ?_
  refine At.vh R R R R (jv R) R (fun hg3=>(jb (x:=(.tv (kInt .i64) from4)) (ja R))) ?_
  obtain ⟨hq3,hF⟩:=hF
  refine At.vh R R R R (jv R) R (fun hg4=>(vd zObject (jh R hg4) (jh R hg4) Tryz.underlying22 ty_59 (hq3 hg4))) ?_
  refine At.vh R R R R (jv R) R (fun hg5=>(Jb (K:=kObject) (jh R hg5) fa_59_0 sub_Object_0)) ?_
  refine At.vh R R R R (jv R) R (fun hg6=>(vo (K:=kStr) (jh R hg6) ty_9)) ?_
  refine At.vh R R R R (jv R) R (fun hg7=>(jb (x:=(.tv kStr id1)) (ja R))) ?_
  refine At.vh R R R R (jv R) R (fun hg8=>(jk (jh R hg8) (jh R hg8) bin_seql)) ?_
  refine At.d R R R R (jm (ja R) (ja R) (jl _) pick_and) ?_
  refine At.done (At.vf ?_)
  refine At.cond (ja R) (fun hb5=>?_) (fun hb5=>?_)
  ·replace hF:=W.ite_t hb5 hF
   refine At.seq (At.region (At.d R R R R (jb (x:=(.tv (kInt .i64) from4)) (ja R)) ?_))
   refine At.d R R R R (jd (x:=(.tv (kInt .i64) from4)) (ja R)) ?_
   refine At.done (At.vf (At.ret (At.vg ?_)))
   exact At.j rfl (rv_tmp rfl) [] rfl ⟨from4,hF,rfl,rfl⟩
  ·replace hF:=W.ite_f hb5 hF
   refine At.skip (At.vf (At.seq (At.region (At.d R R R R (jd (x:=(.tv (kInt .i64) (-1:Int))) (ji _ _)) ?_))))
   refine At.done (At.vf (At.ret ?_))
   exact At.j rfl (rv_tmp rfl) [] rfl ⟨(-1:Int),hF,rfl,rfl⟩
def ref13_kind.F (o1:Object) (i1:Int):W Int:=W.ite ((o1.Kind==(4:Int))||((o1.Kind==(5:Int))&&(i1 != (1:Int)))) (W.ret (2:Int)) (W.ret (1:Int))
theorem ref13_kind.ok {o1:Object} {i1:Int} {Q:Int→Prop} (hF:ref13_kind.F o1 i1 Q):Con Tryz.prog 88 [.tv kObject o1,.tv (kInt .i64) i1] [] (fun ta rs'=>∃ (r:Int),Q r∧ta=.tv (kInt .i64) r∧rs'=[]):=by
 refine Con.i Tryz.func88 Tryz.ntmps88 R R (fun C=>?_)
 unfold ref13_kind.F at hF
 refine At.seq (At.region (At.f R (eff_box R R R (ja R)) ?_))
 rintro _ _ ⟨g1,rfl,rfl⟩
 refine At.d R R R R (jd (x:=(.tv (kInt .i64) (0:Int))) (ji _ _)) ?_
 refine At.done (At.vf (At.seq (At.seq (At.region (At.d R R R R (je (ja R) fa_59_1) ?_)))))
 refine At.d R R R R (jc (ja R) 0 R sub_Object_1 ty_3) ?_
 refine At.d R R R R (jk (ja R) (ji _ _) bin_eql) ?_
 refine At.d R R R R (jb (x:=(.tv kBool (o1.Kind==(4:Int)))) (ja R)) ?_
 refine At.vh R R R R (jw R) R (fun hg1=>(je (ja R) fa_59_1)) ?_
 refine At.vh R R R R (jw R) R (fun hg2=>(jc (jh R hg2) 0 R sub_Object_1 ty_3)) ?_
 refine At.vh R R R R (jw R) R (fun hg3=>(jk (jh R hg3) (ji _ _) bin_eql)) ?_
 refine At.vh R R R R (jw R) R (fun hg4=>(jb (x:=(.tv kBool (o1.Kind==(5:Int)))) (jh R hg4))) ?_
 refine At.vh R R R R (ju R) R (fun hg5=>(jb (x:=(.tv (kInt .i64) i1)) (ja R))) ?_
 refine At.vh R R R R (ju R) R (fun hg6=>(jk (jh R hg6) (ji _ _) bin_neq)) ?_
 refine At.vh R R R R (jw R) R (fun hg7=>(jm (jh R hg7) (ja R) (jl _) (pick_andG (and_of hg7)))) ?_
 refine At.d R R R R (jm (ja R) (jl _) (ja R) pick_or) ?_
 refine At.done (At.vf ?_)
 refine At.cond (ja R) (fun hb1=>?_) (fun hb1=>?_)
 ·replace hF:=W.ite_t hb1 hF
  refine At.seq (At.region (At.d R R R R (jd (x:=(.tv (kInt .i64) (2:Int))) (ji _ _)) ?_))
  refine At.done (At.vf (At.ret (At.vg ?_)))
  exact At.j rfl (rv_tmp rfl) [] rfl ⟨(2:Int),hF,rfl,rfl⟩
 ·replace hF:=W.ite_f hb1 hF
  refine At.skip (At.vf (At.seq (At.region (At.d R R R R (jd (x:=(.tv (kInt .i64) (1:Int))) (ji _ _)) ?_))))
  refine At.done (At.vf (At.ret ?_))
  exact At.j rfl (rv_tmp rfl) [] rfl ⟨(1:Int),hF,rfl,rfl⟩
def ref13_Sound.c1:W Bool:=W.ret true
def ref13_Sound.l1 (self:Map→Object→W Bool) (m1:Map) (o1:Object) (K1:W Bool) (A1:Int→W Bool) (i6:Int):W Bool:=W.ite (decide (i6<(o1.Refs.length:Int))) (W.req (0≤i6∧i6<(o1.Refs.length:Int)) (W.bind (ref13_Find.F m1 (rd (⟨#[]⟩:BA) o1.Refs i6)) (fun r13=>W.req ((!(decide (r13<(0:Int))))=true→0≤r13∧r13<(m1.Objects.length:Int)) (W.bind (W.ite (!(decide (r13<(0:Int)))) (ref13_kind.F o1 i6) (W.ret (0:Int))) (fun r14=>W.req ((!((decide (r13<(0:Int)))||(((rd zObject m1.Objects r13).Kind) != r14)))=true→0≤r13∧r13<(m1.Objects.length:Int)) (W.bind (W.ite (!((decide (r13<(0:Int)))||(((rd zObject m1.Objects r13).Kind) != r14))) (self m1 (rd zObject m1.Objects r13)) (W.ret false)) (fun r15=>W.ite (((decide (r13<(0:Int)))||(((rd zObject m1.Objects r13).Kind) != r14))||(!r15)) (W.ret false) (A1 (w64 (i6+(1:Int))))))))))) (K1)
def ref13_Sound.G (self:Map→Object→W Bool) (m1:Map) (o1:Object):W Bool:=W.ex fun n=>W.iter1 (ref13_Sound.l1 self m1 o1 (ref13_Sound.c1)) n (0:Int)
def ref13_Sound.Fn:Nat→Map→Object→W Bool
 | 0=>fun _ _=>W.fail
 | n+1=>ref13_Sound.G (ref13_Sound.Fn n)
def ref13_Sound.F (m1:Map) (o1:Object):W Bool:=W.ex fun n=>ref13_Sound.Fn n m1 o1
theorem ref13_Sound.okn (n:Nat):∀ {m1:Map} {o1:Object} {Q:Bool→Prop},ref13_Sound.Fn n m1 o1 Q→Con Tryz.prog 52 [.tv kMap m1,.tv kObject o1] [] (fun ta rs'=>∃ (r:Bool),Q r∧ta=.tv kBool r∧rs'=[]):=by
 induction n with
 | zero=>intro m1 o1 Q hF;exact False.elim hF
 | succ n ih=>
  intro m1 o1 Q hF
  replace hF:ref13_Sound.G (ref13_Sound.Fn n) m1 o1 Q:=hF
  refine Con.i Tryz.func52 Tryz.ntmps52 R R (fun C=>?_)
  unfold ref13_Sound.G at hF
  refine At.seq (At.region (At.f R (eff_box R R R (ja R)) ?_))
  rintro _ _ ⟨g1,rfl,rfl⟩
  refine At.f R (eff_box R R R (ja R)) ?_
  rintro _ _ ⟨g2,rfl,rfl⟩
  refine At.d R R R R (jd (x:=(.tv kBool false)) (jl _)) ?_
  refine At.done (At.vf ?_)
  refine At.cut (fun rs L=>∃ _:Unit,ref13_Sound.c1 Q∧rs=[]∧L=mkL []) ?_ ?_
  ·refine At.seq (At.region (At.d R R R R (jd (x:=(.tv (kInt .i64) (0:Int))) (ji _ _)) ?_))
   refine At.done (At.vf (At.block ?_))
   obtain ⟨n1,hF⟩:=hF
   refine At.w [1,0] R [(2,(.eq (.pointer (some ⟨g1,0,none⟩)))),(3,(.eq (.pointer (some ⟨g2,0,none⟩)))),(5,(.tv (kInt .i64) (0:Int)))] ⟨R,R,R,trivial⟩ ?_
   refine At.loop (fun m rs L=>∃ (i6:Int),W.iter1 (ref13_Sound.l1 (ref13_Sound.Fn n) m1 o1 (ref13_Sound.c1)) m i6 Q∧rs=[.box g1 24 kMap m1,.box g2 59 kObject o1]∧L=mkL [(2,(.eq (.pointer (some ⟨g1,0,none⟩)))),(3,(.eq (.pointer (some ⟨g2,0,none⟩)))),(5,(.tv (kInt .i64) i6))]) ?_ ?_ (m:=n1) ⟨(0:Int),hF,R,R⟩
   ·rintro rs L ⟨_,hF,_,_⟩;exact hF
   ·rintro m2 _ _ ⟨i6,hF,rfl,rfl⟩
    replace hF:=W.iter1_s hF
    unfold ref13_Sound.l1 at hF
    refine At.seq (At.seq (At.region (At.d R R R R (jb (x:=(.tv (kInt .i64) i6)) (ja R)) ?_)))
    refine At.d R R R R (je (ja R) fa_59_3) ?_
    refine At.d R R R R (jc (ja R) 1 R sub_Object_3 ty_41) ?_
    refine At.d R R R R (jt (ja R) Tryz.underlying41) ?_
    refine At.d R R R R (jk (ja R) (ja R) vc) ?_
    refine At.done (At.vf ?_)
    refine At.cond (ja R) (fun hb9=>?_) (fun hb9=>?_)
    ·replace hF:=W.ite_t hb9 hF
     refine At.skip (At.vf (At.seq (At.block (At.seq ?_))))
     refine At.draw mixed [0,1] R [[],[]] (fun φ w hgd=>?_)
     obtain ⟨hq13,hF⟩:=hF
     replace hF:=W.vk hF
     refine AtH.take [0,1] hgd 0 R R R R (D':=#[Y,N,N,N,N,N,N,N]) (by kernel_rfl) (fun _ _ _ _ h=>h) R (jc (ja R) 0 R (Sub.self kMap) ty_24) ?_
     refine AtH.take [0,1] hgd 1 R R R R (D':=#[Y,Y,N,N,N,N,N,N]) (by kernel_rfl) (fun _ _ _ _ h=>h) R (je (ja R) fa_59_3) ?_
     refine AtH.take [0,1] hgd 2 R R R R (D':=#[Y,Y,Y,N,N,N,N,N]) (by kernel_rfl) (fun _ _ _ _ h=>h) R (jc (ja R) 1 R sub_Object_3 ty_41) ?_
     refine AtH.take [0,1] hgd 3 R R R R (D':=#[Y,Y,Y,Y,N,N,N,N]) (by kernel_rfl) (fun _ _ _ _ h=>h) R (jb (x:=(.tv (kInt .i64) i6)) (ja R)) ?_
     refine AtH.take [0,1] hgd 4 R R R R (D':=#[Y,Y,Y,Y,Y,N,N,N]) (by kernel_rfl) (fun _ _ _ _ h=>h) R (vd (⟨#[]⟩:BA) (ja R) (ja R) Tryz.underlying41 ty_9 hq13) ?_
     refine AtH.take [0,1] hgd 5 R R R R (D':=#[Y,Y,Y,Y,Y,Y,N,N]) (by kernel_rfl) (fun _ _ _ _ h=>h) R (vo (K:=kStr) (ja R) ty_9) ?_
     refine AtH.all1 6 (by kernel_rfl) ?_
     refine AtH.f [(0,0),(1,1)] R R R R R R (jn R R jp (jq R en_87 (jf (ja R) (jf (ja R) jg))) (ref13_Find.ok hF) (by rintro _ _ ⟨r,_,rfl,_⟩;exact flat_int)) (D':=#[Y,Y,Y,Y,Y,Y,Y,N]) (by kernel_rfl) (by kernel_rfl) ?_
     rintro _ _ ⟨_,_,⟨r13,hF,rfl,rfl⟩,rfl,rfl⟩
     refine ⟨_,.inr ⟨R,flat_int⟩,?_⟩
     refine AtH.take [0,1] hgd 7 R R R R (D':=#[Y,Y,Y,Y,Y,Y,Y,Y]) (by kernel_rfl) (fun _ _ _ _ h=>h) R (jd (x:=(.tv (kInt .i64) r13)) (ja R)) ?_
     refine AtH.done (by kernel_rfl) ?_
     refine At.vf (At.seq ?_)
     refine At.draw mixed [0,1] R [[],[]] (fun φ w hgd=>?_)
     obtain ⟨hq14,hF⟩:=hF
     replace hF:=W.vk hF
     refine AtH.take [0,1] hgd 0 R R R R (D':=#[Y,N,N,N,N,N,N,N,N,N,N,N,N,N,N,N,N,N,N,N,N,N,N,N]) (by kernel_rfl) (fun _ _ _ _ h=>h) R (jb (x:=(.tv (kInt .i64) r13)) (ja R)) ?_
     refine AtH.take [0,1] hgd 1 R R R R (D':=#[Y,Y,N,N,N,N,N,N,N,N,N,N,N,N,N,N,N,N,N,N,N,N,N,N]) (by kernel_rfl) (fun _ _ _ _ h=>h) R (jk (ja R) (ji _ _) vc) ?_
     refine AtH.take [0,1] hgd 2 R R R R (D':=#[Y,Y,Y,N,N,N,N,N,N,N,N,N,N,N,N,N,N,N,N,N,N,N,N,N]) (by kernel_rfl) (fun _ _ _ _ h=>h) R (jb (x:=(.tv kBool (decide (r13<(0:Int))))) (ja R)) ?_
     refine AtH.vi [0,1] hgd 3 R R R (jw R) R R (D':=#[Y,Y,Y,Y,N,N,N,N,N,N,N,N,N,N,N,N,N,N,N,N,N,N,N,N]) (by kernel_rfl) (fun _ _ _ _ h=>h) R (fun hg153=>(je (ja R) fa_24_0)) ?_
     refine AtH.vi [0,1] hgd 4 R R R (jw R) R R (D':=#[Y,Y,Y,Y,Y,N,N,N,N,N,N,N,N,N,N,N,N,N,N,N,N,N,N,N]) (by kernel_rfl) (fun _ _ _ _ h=>h) R (fun hg154=>(jc (jh R hg154) 0 R sub_Map_0 ty_22)) ?_
     refine AtH.vi [0,1] hgd 5 R R R (jw R) R R (D':=#[Y,Y,Y,Y,Y,Y,N,N,N,N,N,N,N,N,N,N,N,N,N,N,N,N,N,N]) (by kernel_rfl) (fun _ _ _ _ h=>h) R (fun hg155=>(jb (x:=(.tv (kInt .i64) r13)) (ja R))) ?_
     refine AtH.vi [0,1] hgd 6 R R R (jw R) R R (D':=#[Y,Y,Y,Y,Y,Y,Y,N,N,N,N,N,N,N,N,N,N,N,N,N,N,N,N,N]) (by kernel_rfl) (fun _ _ _ _ h=>h) R (fun hg156=>(vd zObject (jh R hg156) (jh R hg156) Tryz.underlying22 ty_59 (hq14 hg156))) ?_
     refine AtH.vi [0,1] hgd 7 R R R (jw R) R R (D':=#[Y,Y,Y,Y,Y,Y,Y,Y,N,N,N,N,N,N,N,N,N,N,N,N,N,N,N,N]) (by kernel_rfl) (fun _ _ _ _ h=>h) R (fun hg157=>(Jb (K:=kObject) (jh R hg157) fa_59_1 sub_Object_1)) ?_
     refine AtH.vi [0,1] hgd 8 R R R (jw R) R R (D':=#[Y,Y,Y,Y,Y,Y,Y,Y,Y,N,N,N,N,N,N,N,N,N,N,N,N,N,N,N]) (by kernel_rfl) (fun _ _ _ _ h=>h) R (fun hg158=>(vo (K:=(kInt .i64)) (jh R hg158) ty_3)) ?_
     refine AtH.vi [0,1] hgd 9 R R R (jw R) R R (D':=#[Y,Y,Y,Y,Y,Y,Y,Y,Y,Y,N,N,N,N,N,N,N,N,N,N,N,N,N,N]) (by kernel_rfl) (fun _ _ _ _ h=>h) R (fun hg159=>(jc (ja R) 1 R (Sub.self kObject) ty_59)) ?_
     refine AtH.vi [0,1] hgd 10 R R R (jw R) R R (D':=#[Y,Y,Y,Y,Y,Y,Y,Y,Y,Y,Y,N,N,N,N,N,N,N,N,N,N,N,N,N]) (by kernel_rfl) (fun _ _ _ _ h=>h) R (fun hg160=>(jb (x:=(.tv (kInt .i64) i6)) (ja R))) ?_
     refine AtH.all1 11 (by kernel_rfl) ?_
     refine AtH.effG [(0,0),(1,1)] R R R R R R R (jw R) (D':=#[Y,Y,Y,Y,Y,Y,Y,Y,Y,Y,Y,Y,N,N,N,N,N,N,N,N,N,N,N,N]) (by kernel_rfl) (by kernel_rfl) hF (fun r=>.tv (kInt .i64) r) (fun _=>flat_int) (fun hg161 hF=>eff_of (jn R R jp (jq R en_88 (jf (jh R hg161) (jf (jh R hg161) jg))) (ref13_kind.ok hF) (by rintro _ _ ⟨r,_,rfl,_⟩;exact flat_int)) (by rintro _ _ ⟨_,_,⟨r,hF,rfl,rfl⟩,rfl,rfl⟩;exact ⟨r,hF,R,R⟩)) (fun r14 hF=>?_)
     obtain ⟨hq15,hF⟩:=hF
     replace hF:=W.vk hF
     refine AtH.vi [0,1] hgd 12 R R R (jw R) R R (D':=#[Y,Y,Y,Y,Y,Y,Y,Y,Y,Y,Y,Y,Y,N,N,N,N,N,N,N,N,N,N,N]) (by kernel_rfl) (fun _ _ _ _ h=>h) R (fun hg162=>(jk (jh R hg162) (jh R hg162) bin_neq)) ?_
     refine AtH.take [0,1] hgd 13 R R R R (D':=#[Y,Y,Y,Y,Y,Y,Y,Y,Y,Y,Y,Y,Y,Y,N,N,N,N,N,N,N,N,N,N]) (by kernel_rfl) (fun _ _ _ _ h=>h) R (jm (ja R) (jl _) (ja R) pick_or) ?_
     refine AtH.take [0,1] hgd 14 R R R R (D':=#[Y,Y,Y,Y,Y,Y,Y,Y,Y,Y,Y,Y,Y,Y,Y,N,N,N,N,N,N,N,N,N]) (by kernel_rfl) (fun _ _ _ _ h=>h) R (jb (x:=(.tv kBool ((decide (r13<(0:Int)))||(((rd zObject m1.Objects r13).Kind) != r14)))) (ja R)) ?_
     refine AtH.vi [0,1] hgd 15 R R R (jw R) R R (D':=#[Y,Y,Y,Y,Y,Y,Y,Y,Y,Y,Y,Y,Y,Y,Y,Y,N,N,N,N,N,N,N,N]) (by kernel_rfl) (fun _ _ _ _ h=>h) R (fun hg163=>(jc (ja R) 0 R (Sub.self kMap) ty_24)) ?_
     refine AtH.vi [0,1] hgd 16 R R R (jw R) R R (D':=#[Y,Y,Y,Y,Y,Y,Y,Y,Y,Y,Y,Y,Y,Y,Y,Y,Y,N,N,N,N,N,N,N]) (by kernel_rfl) (fun _ _ _ _ h=>h) R (fun hg164=>(je (ja R) fa_24_0)) ?_
     refine AtH.vi [0,1] hgd 17 R R R (jw R) R R (D':=#[Y,Y,Y,Y,Y,Y,Y,Y,Y,Y,Y,Y,Y,Y,Y,Y,Y,Y,N,N,N,N,N,N]) (by kernel_rfl) (fun _ _ _ _ h=>h) R (fun hg165=>(jc (jh R hg165) 0 R sub_Map_0 ty_22)) ?_
     refine AtH.vi [0,1] hgd 18 R R R (jw R) R R (D':=#[Y,Y,Y,Y,Y,Y,Y,Y,Y,Y,Y,Y,Y,Y,Y,Y,Y,Y,Y,N,N,N,N,N]) (by kernel_rfl) (fun _ _ _ _ h=>h) R (fun hg166=>(jb (x:=(.tv (kInt .i64) r13)) (ja R))) ?_
     refine AtH.vi [0,1] hgd 19 R R R (jw R) R R (D':=#[Y,Y,Y,Y,Y,Y,Y,Y,Y,Y,Y,Y,Y,Y,Y,Y,Y,Y,Y,Y,N,N,N,N]) (by kernel_rfl) (fun _ _ _ _ h=>h) R (fun hg167=>(vd zObject (jh R hg167) (jh R hg167) Tryz.underlying22 ty_59 (hq15 hg167))) ?_
     refine AtH.vi [0,1] hgd 20 R R R (jw R) R R (D':=#[Y,Y,Y,Y,Y,Y,Y,Y,Y,Y,Y,Y,Y,Y,Y,Y,Y,Y,Y,Y,Y,N,N,N]) (by kernel_rfl) (fun _ _ _ _ h=>h) R (fun hg168=>(vo (K:=kObject) (jh R hg168) ty_59)) ?_
     refine AtH.all1 21 (by kernel_rfl) ?_
     refine AtH.effG [(0,0),(1,1)] R R R R R R R (jw R) (D':=#[Y,Y,Y,Y,Y,Y,Y,Y,Y,Y,Y,Y,Y,Y,Y,Y,Y,Y,Y,Y,Y,Y,N,N]) (by kernel_rfl) (by kernel_rfl) hF (fun r=>.tv kBool r) (fun _=>vj) (fun hg169 hF=>eff_of (jn R R jp (jq R en_52 (jf (jh R hg169) (jf (jh R hg169) jg))) (ih hF) (by rintro _ _ ⟨r,_,rfl,_⟩;exact vj)) (by rintro _ _ ⟨_,_,⟨r,hF,rfl,rfl⟩,rfl,rfl⟩;exact ⟨r,hF,R,R⟩)) (fun r15 hF=>?_)
     refine AtH.vi [0,1] hgd 22 R R R (jw R) R R (D':=#[Y,Y,Y,Y,Y,Y,Y,Y,Y,Y,Y,Y,Y,Y,Y,Y,Y,Y,Y,Y,Y,Y,Y,N]) (by kernel_rfl) (fun _ _ _ _ h=>h) R (fun hg170=>(does_not (jh R hg170))) ?_
     refine AtH.take [0,1] hgd 23 R R R R (D':=#[Y,Y,Y,Y,Y,Y,Y,Y,Y,Y,Y,Y,Y,Y,Y,Y,Y,Y,Y,Y,Y,Y,Y,Y]) (by kernel_rfl) (fun _ _ _ _ h=>h) R (jm (ja R) (jl _) (ja R) pick_or) ?_
     refine AtH.done (by kernel_rfl) ?_
     refine At.vf ?_
     refine At.cond (ja R) (fun hb10=>?_) (fun hb10=>?_)
     ·replace hF:=W.ite_t hb10 hF
      refine At.seq (At.region (At.d R R R R (jd (x:=(.tv kBool false)) (jl _)) ?_))
      refine At.done (At.vf (At.ret ?_))
      refine At.q ?_
      refine At.vg (At.vg ?_)
      refine At.q ?_
      refine At.vg ?_
      exact At.j rfl (rv_tmp rfl) [] rfl ⟨false,hF,rfl,rfl⟩
     ·replace hF:=W.ite_f hb10 hF
      refine At.skip ?_
      refine At.n ?_
      refine At.vf (At.region (At.d R R R R (jb (x:=(.tv (kInt .i64) i6)) (ja R)) ?_))
      refine At.d R R R R (jk (ja R) (ji _ _) jz) ?_
      refine At.d R R R R (jd (x:=(.tv (kInt .i64) (w64 (i6+(1:Int))))) (ja R)) ?_
      refine At.done (At.vf ?_)
      refine At.w [0,1] R [(2,(.eq (.pointer (some ⟨g1,0,none⟩)))),(3,(.eq (.pointer (some ⟨g2,0,none⟩)))),(5,(.tv (kInt .i64) (w64 (i6+(1:Int)))))] ⟨R,R,R,trivial⟩ (At.r ⟨(w64 (i6+(1:Int))),hF,R,R⟩)
    ·replace hF:=W.ite_f hb9 hF
     refine At.exit ?_
     refine At.x (At.x ?_)
     refine At.h ?_
     refine At.vf ?_
     refine At.w [] R [] trivial (At.r ⟨(),hF,R,R⟩)
  ·rintro _ _ ⟨_,hF,rfl,rfl⟩
   unfold ref13_Sound.c1 at hF
   refine At.seq (At.region (At.d R R R R (jd (x:=(.tv kBool true)) (jl _)) ?_))
   refine At.done (At.vf (At.ret ?_))
   exact At.j rfl (rv_tmp rfl) [] rfl ⟨true,hF,rfl,rfl⟩
theorem ref13_Sound.ok {m1:Map} {o1:Object} {Q:Bool→Prop} (hF:ref13_Sound.F m1 o1 Q):Con Tryz.prog 52 [.tv kMap m1,.tv kObject o1] [] (fun ta rs'=>∃ (r:Bool),Q r∧ta=.tv kBool r∧rs'=[]):=by
 obtain ⟨n,hF⟩:=hF
 exact ref13_Sound.okn n hF
def ref08_letter.F (c1:Int):W Bool:=W.ret (((decide ((97:Int)≤c1))&&(decide (c1≤(122:Int))))||((decide ((65:Int)≤c1))&&(decide (c1≤(90:Int)))))
theorem ref08_letter.ok {c1:Int} {Q:Bool→Prop} (hF:ref08_letter.F c1 Q):Con Tryz.prog 154 [.tv (kInt .u8) c1] [] (fun ta rs'=>∃ (r:Bool),Q r∧ta=.tv kBool r∧rs'=[]):=by
 refine Con.i Tryz.func154 Tryz.ntmps154 R R (fun C=>?_)
 unfold ref08_letter.F at hF
 refine At.seq (At.region (At.d R R R R (jd (x:=(.tv kBool false)) (jl _)) ?_))
 refine At.done (At.vf (At.seq (At.region (At.d R R R R (jb (x:=(.tv (kInt .u8) c1)) (ja R)) ?_))))
 refine At.d R R R R (jk (ja R) (ji _ _) bin_geq) ?_
 refine At.d R R R R (jb (x:=(.tv kBool (decide ((97:Int)≤c1)))) (ja R)) ?_
 refine At.vh R R R R (jv R) R (fun hg1=>(jb (x:=(.tv (kInt .u8) c1)) (ja R))) ?_
 refine At.vh R R R R (jv R) R (fun hg2=>(jk (jh R hg2) (ji _ _) bin_leq)) ?_
 refine At.d R R R R (jm (ja R) (ja R) (jl _) pick_and) ?_
 refine At.d R R R R (jb (x:=(.tv kBool ((decide ((97:Int)≤c1))&&(decide (c1≤(122:Int)))))) (ja R)) ?_
 refine At.vh R R R R (jw R) R (fun hg3=>(jb (x:=(.tv (kInt .u8) c1)) (ja R))) ?_
 refine At.vh R R R R (jw R) R (fun hg4=>(jk (jh R hg4) (ji _ _) bin_geq)) ?_
 refine At.vh R R R R (jw R) R (fun hg5=>(jb (x:=(.tv kBool (decide ((65:Int)≤c1)))) (jh R hg5))) ?_
 refine At.vh R R R R (ju R) R (fun hg6=>(jb (x:=(.tv (kInt .u8) c1)) (ja R))) ?_
 refine At.vh R R R R (ju R) R (fun hg7=>(jk (jh R hg7) (ji _ _) bin_leq)) ?_
 refine At.vh R R R R (jw R) R (fun hg8=>(jm (jh R hg8) (ja R) (jl _) (pick_andG (and_of hg8)))) ?_
 refine At.d R R R R (jm (ja R) (jl _) (ja R) pick_or) ?_
 refine At.d R R R R (jd (x:=(.tv kBool (((decide ((97:Int)≤c1))&&(decide (c1≤(122:Int))))||((decide ((65:Int)≤c1))&&(decide (c1≤(90:Int))))))) (ja R)) ?_
 refine At.done (At.vf (At.ret ?_))
 exact At.j rfl (rv_tmp rfl) [] rfl ⟨(((decide ((97:Int)≤c1))&&(decide (c1≤(122:Int))))||((decide ((65:Int)≤c1))&&(decide (c1≤(90:Int))))),hF,rfl,rfl⟩
def ref08_digit.F (c1:Int):W Bool:=W.ret ((decide ((48:Int)≤c1))&&(decide (c1≤(57:Int))))
theorem ref08_digit.ok {c1:Int} {Q:Bool→Prop} (hF:ref08_digit.F c1 Q):Con Tryz.prog 178 [.tv (kInt .u8) c1] [] (fun ta rs'=>∃ (r:Bool),Q r∧ta=.tv kBool r∧rs'=[]):=by
 refine Con.i Tryz.func178 Tryz.ntmps178 R R (fun C=>?_)
 unfold ref08_digit.F at hF
 refine At.seq (At.region (At.d R R R R (jd (x:=(.tv kBool false)) (jl _)) ?_))
 refine At.done (At.vf (At.seq (At.region (At.d R R R R (jb (x:=(.tv (kInt .u8) c1)) (ja R)) ?_))))
 refine At.d R R R R (jk (ja R) (ji _ _) bin_geq) ?_
 refine At.d R R R R (jb (x:=(.tv kBool (decide ((48:Int)≤c1)))) (ja R)) ?_
 refine At.vh R R R R (jv R) R (fun hg1=>(jb (x:=(.tv (kInt .u8) c1)) (ja R))) ?_
 refine At.vh R R R R (jv R) R (fun hg2=>(jk (jh R hg2) (ji _ _) bin_leq)) ?_
 refine At.d R R R R (jm (ja R) (ja R) (jl _) pick_and) ?_
 refine At.d R R R R (jd (x:=(.tv kBool ((decide ((48:Int)≤c1))&&(decide (c1≤(57:Int)))))) (ja R)) ?_
 refine At.done (At.vf (At.ret ?_))
 exact At.j rfl (rv_tmp rfl) [] rfl ⟨((decide ((48:Int)≤c1))&&(decide (c1≤(57:Int)))),hF,rfl,rfl⟩
def ref08_word.F (c1:Int):W Bool:=W.bind (ref08_letter.F c1) (fun r1=>W.bind (W.ite (!r1) (ref08_digit.F c1) (W.ret false)) (fun r2=>W.ret ((r1||r2)||(c1==(95:Int)))))
theorem ref08_word.ok {c1:Int} {Q:Bool→Prop} (hF:ref08_word.F c1 Q):Con Tryz.prog 153 [.tv (kInt .u8) c1] [] (fun ta rs'=>∃ (r:Bool),Q r∧ta=.tv kBool r∧rs'=[]):=by
 refine Con.i Tryz.func153 Tryz.ntmps153 R R (fun C=>?_)
 unfold ref08_word.F at hF
 refine At.seq (At.region (At.d R R R R (jd (x:=(.tv kBool false)) (jl _)) ?_))
 refine At.done (At.vf (At.seq (At.region (At.d R R R R (jb (x:=(.tv (kInt .u8) c1)) (ja R)) ?_))))
 replace hF:=W.vk hF
 refine At.f R (jn R R jp (jq R en_154 (jf (ja R) jg)) (ref08_letter.ok hF) (by rintro _ _ ⟨r,_,rfl,_⟩;exact vj)) ?_
 rintro _ _ ⟨_,_,⟨r1,hF,rfl,rfl⟩,rfl,rfl⟩
 refine At.d R R R R (jb (x:=(.tv kBool r1)) (ja R)) ?_
 refine At.vh R R R R (jw R) R (fun hg1=>(jb (x:=(.tv (kInt .u8) c1)) (ja R))) ?_
 replace hF:=W.vk hF
 refine At.effG R R R R (jw R) hF (fun r=>.tv kBool r) (fun hg2 hF=>eff_of (jn R R jp (jq R en_178 (jf (jh R hg2) jg)) (ref08_digit.ok hF) (by rintro _ _ ⟨r,_,rfl,_⟩;exact vj)) (by rintro _ _ ⟨_,_,⟨r,hF,rfl,rfl⟩,rfl,rfl⟩;exact ⟨r,hF,R,R⟩)) (fun r2 hF=>?_)
 refine At.d R R R R (jm (ja R) (jl _) (ja R) pick_or) ?_
 refine At.d R R R R (jb (x:=(.tv kBool (r1||r2))) (ja R)) ?_
 refine At.vh R R R R (jw R) R (fun hg3=>(jb (x:=(.tv (kInt .u8) c1)) (ja R))) ?_
 refine At.vh R R R R (jw R) R (fun hg4=>(jk (jh R hg4) (ji _ _) bin_eql)) ?_
 refine At.d R R R R (jm (ja R) (jl _) (ja R) pick_or) ?_
 refine At.d R R R R (jd (x:=(.tv kBool ((r1||r2)||(c1==(95:Int))))) (ja R)) ?_
 refine At.done (At.vf (At.ret ?_))
 exact At.j rfl (rv_tmp rfl) [] rfl ⟨((r1||r2)||(c1==(95:Int))),hF,rfl,rfl⟩
def ref08_Name.c1 (s1:BA):W Bool:=W.req (((decide ((0:Int)<(s1.size:Int)))&&(decide ((s1.size:Int)≤(24:Int))))=true→0≤(0:Int)∧(0:Int)<(s1.size:Int)) (W.bind (W.ite ((decide ((0:Int)<(s1.size:Int)))&&(decide ((s1.size:Int)≤(24:Int)))) (ref08_letter.F (byteAt s1 (0:Int))) (W.ret false)) (fun r3=>W.ret (((decide ((0:Int)<(s1.size:Int)))&&(decide ((s1.size:Int)≤(24:Int))))&&r3)))
def ref08_Name.l1 (s1:BA) (K1:W Bool) (A1:Int→W Bool) (i6:Int):W Bool:=W.ite (decide (i6<(s1.size:Int))) (W.req (0≤i6∧i6<(s1.size:Int)) (W.bind (ref08_word.F (byteAt s1 i6)) (fun r6=>W.ite (!r6) (W.ret false) (A1 (w64 (i6+(1:Int))))))) (K1)
def ref08_Name.F (s1:BA):W Bool:=W.ex fun n=>W.iter1 (ref08_Name.l1 s1 (ref08_Name.c1 s1)) n (0:Int)
theorem ref08_Name.ok {s1:BA} {Q:Bool→Prop} (hF:ref08_Name.F s1 Q):Con Tryz.prog 124 [.tv kStr s1] [] (fun ta rs'=>∃ (r:Bool),Q r∧ta=.tv kBool r∧rs'=[]):=by
 refine Con.i Tryz.func124 Tryz.ntmps124 R R (fun C=>?_)
 unfold ref08_Name.F at hF
 refine At.seq (At.region (At.d R R R R (jd (x:=(.tv kBool false)) (jl _)) ?_))
 refine At.done (At.vf ?_)
 refine At.cut (fun rs L=>∃ _:Unit,ref08_Name.c1 s1 Q∧rs=[]∧L=mkL [(0,(.tv kStr s1))]) ?_ ?_
 ·refine At.seq (At.region (At.d R R R R (jd (x:=(.tv (kInt .i64) (0:Int))) (ji _ _)) ?_))
  refine At.done (At.vf (At.block ?_))
  obtain ⟨n1,hF⟩:=hF
  refine At.w [] R [(0,(.tv kStr s1)),(3,(.tv (kInt .i64) (0:Int)))] ⟨R,R,trivial⟩ ?_
  refine At.loop (fun m rs L=>∃ (i6:Int),W.iter1 (ref08_Name.l1 s1 (ref08_Name.c1 s1)) m i6 Q∧rs=[]∧L=mkL [(0,(.tv kStr s1)),(3,(.tv (kInt .i64) i6))]) ?_ ?_ (m:=n1) ⟨(0:Int),hF,R,R⟩
  ·rintro rs L ⟨_,hF,_,_⟩;exact hF
  ·rintro m1 _ _ ⟨i6,hF,rfl,rfl⟩
   replace hF:=W.iter1_s hF
   unfold ref08_Name.l1 at hF
   refine At.seq (At.seq (At.region (At.d R R R R (jb (x:=(.tv (kInt .i64) i6)) (ja R)) ?_)))
   refine At.d R R R R (jb (x:=(.tv kStr s1)) (ja R)) ?_
   refine At.d R R R R (does_len_str (ja R) Tryz.underlying9) ?_
   refine At.d R R R R (jk (ja R) (ja R) vc) ?_
   refine At.done (At.vf ?_)
   refine At.cond (ja R) (fun hb9=>?_) (fun hb9=>?_)
   ·replace hF:=W.ite_t hb9 hF
    refine At.skip (At.vf (At.seq (At.block (At.seq (At.region (At.d R R R R (jb (x:=(.tv kStr s1)) (ja R)) ?_))))))
    refine At.d R R R R (jb (x:=(.tv (kInt .i64) i6)) (ja R)) ?_
    obtain ⟨hq6,hF⟩:=hF
    refine At.d R R R R (does_index_str (ja R) (ja R) Tryz.underlying9 hq6) ?_
    replace hF:=W.vk hF
    refine At.f R (jn R R jp (jq R en_153 (jf (ja R) jg)) (ref08_word.ok hF) (by rintro _ _ ⟨r,_,rfl,_⟩;exact vj)) ?_
    rintro _ _ ⟨_,_,⟨r6,hF,rfl,rfl⟩,rfl,rfl⟩
    refine At.d R R R R (does_not (ja R)) ?_
    refine At.done (At.vf ?_)
    refine At.cond (ja R) (fun hb10=>?_) (fun hb10=>?_)
    ·replace hF:=W.ite_t hb10 hF
     refine At.seq (At.region (At.d R R R R (jd (x:=(.tv kBool false)) (jl _)) ?_))
     refine At.done (At.vf (At.ret ?_))
     refine At.q ?_
     refine At.vg (At.vg ?_)
     refine At.q ?_
     refine At.vg ?_
     exact At.j rfl (rv_tmp rfl) [] rfl ⟨false,hF,rfl,rfl⟩
    ·replace hF:=W.ite_f hb10 hF
     refine At.skip ?_
     refine At.n ?_
     refine At.vf (At.region (At.d R R R R (jb (x:=(.tv (kInt .i64) i6)) (ja R)) ?_))
     refine At.d R R R R (jk (ja R) (ji _ _) jz) ?_
     refine At.d R R R R (jd (x:=(.tv (kInt .i64) (w64 (i6+(1:Int))))) (ja R)) ?_
     refine At.done (At.vf ?_)
     refine At.w [] R [(0,(.tv kStr s1)),(3,(.tv (kInt .i64) (w64 (i6+(1:Int)))))] ⟨R,R,trivial⟩ (At.r ⟨(w64 (i6+(1:Int))),hF,R,R⟩)
   ·replace hF:=W.ite_f hb9 hF
    refine At.exit ?_
    refine At.x (At.x ?_)
    refine At.h ?_
    refine At.vf ?_
    refine At.w [] R [(0,(.tv kStr s1))] ⟨R,trivial⟩ (At.r ⟨(),hF,R,R⟩)
 ·rintro _ _ ⟨_,hF,rfl,rfl⟩
  unfold ref08_Name.c1 at hF
  refine At.seq (At.region (At.d R R R R (jb (x:=(.tv kStr s1)) (ja R)) ?_))
  refine At.d R R R R (does_len_str (ja R) Tryz.underlying9) ?_
  refine At.d R R R R (jk (ja R) (ji _ _) bin_gtr) ?_
  refine At.d R R R R (jb (x:=(.tv kBool (decide ((0:Int)<(s1.size:Int))))) (ja R)) ?_
  refine At.vh R R R R (jv R) R (fun hg1=>(jb (x:=(.tv kStr s1)) (ja R))) ?_
  refine At.vh R R R R (jv R) R (fun hg2=>(does_len_str (jh R hg2) Tryz.underlying9)) ?_
  refine At.vh R R R R (jv R) R (fun hg3=>(jk (jh R hg3) (ji _ _) bin_leq)) ?_
  refine At.d R R R R (jm (ja R) (ja R) (jl _) pick_and) ?_
  refine At.d R R R R (jb (x:=(.tv kBool ((decide ((0:Int)<(s1.size:Int)))&&(decide ((s1.size:Int)≤(24:Int)))))) (ja R)) ?_
  refine At.vh R R R R (jv R) R (fun hg4=>(jb (x:=(.tv kStr s1)) (ja R))) ?_
  obtain ⟨hq3,hF⟩:=hF
  refine At.vh R R R R (jv R) R (fun hg5=>(does_index_str (jh R hg5) (ji _ _) Tryz.underlying9 (hq3 hg5))) ?_
  replace hF:=W.vk hF
  refine At.effG R R R R (jv R) hF (fun r=>.tv kBool r) (fun hg6 hF=>eff_of (jn R R jp (jq R en_154 (jf (jh R hg6) jg)) (ref08_letter.ok hF) (by rintro _ _ ⟨r,_,rfl,_⟩;exact vj)) (by rintro _ _ ⟨_,_,⟨r,hF,rfl,rfl⟩,rfl,rfl⟩;exact ⟨r,hF,R,R⟩)) (fun r3 hF=>?_)
  refine At.d R R R R (jm (ja R) (ja R) (jl _) pick_and) ?_
  refine At.d R R R R (jd (x:=(.tv kBool (((decide ((0:Int)<(s1.size:Int)))&&(decide ((s1.size:Int)≤(24:Int))))&&r3))) (ja R)) ?_
  refine At.done (At.vf (At.ret ?_))
  exact At.j rfl (rv_tmp rfl) [] rfl ⟨(((decide ((0:Int)<(s1.size:Int)))&&(decide ((s1.size:Int)≤(24:Int))))&&r3),hF,rfl,rfl⟩
def ref11_On.F (p1:Point):W Bool:=W.ret ((((decide ((0:Int)≤p1.X))&&(decide (p1.X<(1048576:Int))))&&(decide ((0:Int)≤p1.Y)))&&(decide (p1.Y<(1048576:Int))))
theorem ref11_On.ok {p1:Point} {Q:Bool→Prop} (hF:ref11_On.F p1 Q):Con Tryz.prog 123 [.tv kPoint p1] [] (fun ta rs'=>∃ (r:Bool),Q r∧ta=.tv kBool r∧rs'=[]):=by
 refine Con.i Tryz.func123 Tryz.ntmps123 R R (fun C=>?_)
 unfold ref11_On.F at hF
 refine At.seq (At.region (At.f R (eff_box R R R (ja R)) ?_))
 rintro _ _ ⟨g1,rfl,rfl⟩
 refine At.d R R R R (jd (x:=(.tv kBool false)) (jl _)) ?_
 refine At.done (At.vf (At.seq (At.region (At.d R R R R (je (ja R) fa_37_0) ?_))))
 refine At.d R R R R (jc (ja R) 0 R sub_Point_0 ty_3) ?_
 refine At.d R R R R (jk (ja R) (ji _ _) bin_geq) ?_
 refine At.d R R R R (jb (x:=(.tv kBool (decide ((0:Int)≤p1.X)))) (ja R)) ?_
 refine At.vh R R R R (jv R) R (fun hg1=>(je (ja R) fa_37_0)) ?_
 refine At.vh R R R R (jv R) R (fun hg2=>(jc (jh R hg2) 0 R sub_Point_0 ty_3)) ?_
 refine At.vh R R R R (jv R) R (fun hg3=>(jk (jh R hg3) (ji _ _) vc)) ?_
 refine At.d R R R R (jm (ja R) (ja R) (jl _) pick_and) ?_
 refine At.d R R R R (jb (x:=(.tv kBool ((decide ((0:Int)≤p1.X))&&(decide (p1.X<(1048576:Int)))))) (ja R)) ?_
 refine At.vh R R R R (jv R) R (fun hg4=>(je (ja R) fa_37_1)) ?_
 refine At.vh R R R R (jv R) R (fun hg5=>(jc (jh R hg5) 0 R sub_Point_1 ty_3)) ?_
 refine At.vh R R R R (jv R) R (fun hg6=>(jk (jh R hg6) (ji _ _) bin_geq)) ?_
 refine At.d R R R R (jm (ja R) (ja R) (jl _) pick_and) ?_
 refine At.d R R R R (jb (x:=(.tv kBool (((decide ((0:Int)≤p1.X))&&(decide (p1.X<(1048576:Int))))&&(decide ((0:Int)≤p1.Y))))) (ja R)) ?_
 refine At.vh R R R R (jv R) R (fun hg7=>(je (ja R) fa_37_1)) ?_
 refine At.vh R R R R (jv R) R (fun hg8=>(jc (jh R hg8) 0 R sub_Point_1 ty_3)) ?_
 refine At.vh R R R R (jv R) R (fun hg9=>(jk (jh R hg9) (ji _ _) vc)) ?_
 refine At.d R R R R (jm (ja R) (ja R) (jl _) pick_and) ?_
 refine At.d R R R R (jd (x:=(.tv kBool ((((decide ((0:Int)≤p1.X))&&(decide (p1.X<(1048576:Int))))&&(decide ((0:Int)≤p1.Y)))&&(decide (p1.Y<(1048576:Int)))))) (ja R)) ?_
 refine At.done (At.vf (At.ret ?_))
 exact At.j rfl (rv_tmp rfl) [] rfl ⟨((((decide ((0:Int)≤p1.X))&&(decide (p1.X<(1048576:Int))))&&(decide ((0:Int)≤p1.Y)))&&(decide (p1.Y<(1048576:Int)))),hF,rfl,rfl⟩
def ref11_Tags.c1:W Bool:=W.ret true
def ref11_Tags.l1 (l1:(List Tag)) (K1:W Bool) (A1:Int→W Bool) (i6:Int):W Bool:=W.ite (decide (i6<(l1.length:Int))) (W.req (0≤i6∧i6<(l1.length:Int)) (W.bind (ref08_Name.F ((rd zTag l1 i6).Key)) (fun r5=>W.req ((!(!r5))=true→0≤i6∧i6<(l1.length:Int)) (W.req ((!((!r5)||(decide ((((rd zTag l1 i6).Value).size:Int)<(1:Int)))))=true→0≤i6∧i6<(l1.length:Int)) (W.req (((!(((!r5)||(decide ((((rd zTag l1 i6).Value).size:Int)<(1:Int))))||(decide ((200:Int)<(((rd zTag l1 i6).Value).size:Int)))))&&(decide ((0:Int)<i6)))=true→0≤(w64 (i6-(1:Int)))∧(w64 (i6-(1:Int)))<(l1.length:Int)) (W.req (((!(((!r5)||(decide ((((rd zTag l1 i6).Value).size:Int)<(1:Int))))||(decide ((200:Int)<(((rd zTag l1 i6).Value).size:Int)))))&&(decide ((0:Int)<i6)))=true→0≤i6∧i6<(l1.length:Int)) (W.ite ((((!r5)||(decide ((((rd zTag l1 i6).Value).size:Int)<(1:Int))))||(decide ((200:Int)<(((rd zTag l1 i6).Value).size:Int))))||((decide ((0:Int)<i6))&&(!(sLt ((rd zTag l1 (w64 (i6-(1:Int)))).Key) ((rd zTag l1 i6).Key))))) (W.ret false) (A1 (w64 (i6+(1:Int))))))))))) (K1)
def ref11_Tags.F (l1:(List Tag)):W Bool:=W.ite (decide ((60:Int)<(l1.length:Int))) (W.ret false) (W.ex fun n=>W.iter1 (ref11_Tags.l1 l1 (ref11_Tags.c1)) n (0:Int))
theorem ref11_Tags.ok {l1:(List Tag)} {Q:Bool→Prop} (hF:ref11_Tags.F l1 Q):Con Tryz.prog 126 [.tv (kSlice kTag) l1] [] (fun ta rs'=>∃ (r:Bool),Q r∧ta=.tv kBool r∧rs'=[]):=by
 refine Con.i Tryz.func126 Tryz.ntmps126 R R (fun C=>?_)
 unfold ref11_Tags.F at hF
 refine At.seq (At.region (At.d R R R R (jd (x:=(.tv kBool false)) (jl _)) ?_))
 refine At.done (At.vf (At.seq (At.seq (At.region (At.d R R R R (jb (x:=(.tv (kSlice kTag) l1)) (ja R)) ?_)))))
 refine At.d R R R R (jt (ja R) Tryz.underlying57) ?_
 refine At.d R R R R (jk (ja R) (ji _ _) bin_gtr) ?_
 refine At.done (At.vf ?_)
 refine At.cond (ja R) (fun hb1=>?_) (fun hb1=>?_)
 ·replace hF:=W.ite_t hb1 hF
  refine At.seq (At.region (At.d R R R R (jd (x:=(.tv kBool false)) (jl _)) ?_))
  refine At.done (At.vf (At.ret (At.vg ?_)))
  exact At.j rfl (rv_tmp rfl) [] rfl ⟨false,hF,rfl,rfl⟩
 ·replace hF:=W.ite_f hb1 hF
  refine At.skip (At.vf ?_)
  refine At.cut (fun rs L=>∃ _:Unit,ref11_Tags.c1 Q∧rs=[]∧L=mkL []) ?_ ?_
  ·refine At.seq (At.region (At.d R R R R (jd (x:=(.tv (kInt .i64) (0:Int))) (ji _ _)) ?_))
   refine At.done (At.vf (At.block ?_))
   obtain ⟨n1,hF⟩:=hF
   refine At.w [] R [(0,(.tv (kSlice kTag) l1)),(3,(.tv (kInt .i64) (0:Int)))] ⟨R,R,trivial⟩ ?_
   refine At.loop (fun m rs L=>∃ (i6:Int),W.iter1 (ref11_Tags.l1 l1 (ref11_Tags.c1)) m i6 Q∧rs=[]∧L=mkL [(0,(.tv (kSlice kTag) l1)),(3,(.tv (kInt .i64) i6))]) ?_ ?_ (m:=n1) ⟨(0:Int),hF,R,R⟩
   ·rintro rs L ⟨_,hF,_,_⟩;exact hF
   ·rintro m1 _ _ ⟨i6,hF,rfl,rfl⟩
    replace hF:=W.iter1_s hF
    unfold ref11_Tags.l1 at hF
    refine At.seq (At.seq (At.region (At.d R R R R (jb (x:=(.tv (kInt .i64) i6)) (ja R)) ?_)))
    refine At.d R R R R (jb (x:=(.tv (kSlice kTag) l1)) (ja R)) ?_
    refine At.d R R R R (jt (ja R) Tryz.underlying57) ?_
    refine At.d R R R R (jk (ja R) (ja R) vc) ?_
    refine At.done (At.vf ?_)
    refine At.cond (ja R) (fun hb10=>?_) (fun hb10=>?_)
    ·replace hF:=W.ite_t hb10 hF
     refine At.skip (At.vf (At.seq (At.block (At.seq ?_))))
     refine At.draw mixed [] R [] (fun φ w hgd=>?_)
     obtain ⟨hq21,hF⟩:=hF
     replace hF:=W.vk hF
     refine AtH.take [] hgd 0 R R R R (D':=#[Y,N,N,N,N,N,N,N,N,N,N,N,N,N,N,N,N,N,N,N,N,N,N,N,N,N,N,N,N,N,N,N,N,N,N,N,N,N,N,N,N,N,N]) (by kernel_rfl) (fun _ _ _ _ h=>h) R (jb (x:=(.tv (kSlice kTag) l1)) (ja R)) ?_
     refine AtH.take [] hgd 1 R R R R (D':=#[Y,Y,N,N,N,N,N,N,N,N,N,N,N,N,N,N,N,N,N,N,N,N,N,N,N,N,N,N,N,N,N,N,N,N,N,N,N,N,N,N,N,N,N]) (by kernel_rfl) (fun _ _ _ _ h=>h) R (jb (x:=(.tv (kInt .i64) i6)) (ja R)) ?_
     refine AtH.take [] hgd 2 R R R R (D':=#[Y,Y,Y,N,N,N,N,N,N,N,N,N,N,N,N,N,N,N,N,N,N,N,N,N,N,N,N,N,N,N,N,N,N,N,N,N,N,N,N,N,N,N,N]) (by kernel_rfl) (fun _ _ _ _ h=>h) R (vd zTag (ja R) (ja R) Tryz.underlying57 ty_73 hq21) ?_
     refine AtH.take [] hgd 3 R R R R (D':=#[Y,Y,Y,Y,N,N,N,N,N,N,N,N,N,N,N,N,N,N,N,N,N,N,N,N,N,N,N,N,N,N,N,N,N,N,N,N,N,N,N,N,N,N,N]) (by kernel_rfl) (fun _ _ _ _ h=>h) R (Jb (K:=kTag) (ja R) fa_73_0 sub_Tag_0) ?_
     refine AtH.take [] hgd 4 R R R R (D':=#[Y,Y,Y,Y,Y,N,N,N,N,N,N,N,N,N,N,N,N,N,N,N,N,N,N,N,N,N,N,N,N,N,N,N,N,N,N,N,N,N,N,N,N,N,N]) (by kernel_rfl) (fun _ _ _ _ h=>h) R (vo (K:=kStr) (ja R) ty_9) ?_
     refine AtH.all1 5 (by kernel_rfl) ?_
     refine AtH.f [] R R R R R R (jn R R jp (jq R en_124 (jf (ja R) jg)) (ref08_Name.ok hF) (by rintro _ _ ⟨r,_,rfl,_⟩;exact vj)) (D':=#[Y,Y,Y,Y,Y,Y,N,N,N,N,N,N,N,N,N,N,N,N,N,N,N,N,N,N,N,N,N,N,N,N,N,N,N,N,N,N,N,N,N,N,N,N,N]) (by kernel_rfl) (by kernel_rfl) ?_
     rintro _ _ ⟨_,_,⟨r5,hF,rfl,rfl⟩,rfl,rfl⟩
     refine ⟨_,.inr ⟨R,vj⟩,?_⟩
     obtain ⟨hq22,hF⟩:=hF
     obtain ⟨hq23,hF⟩:=hF
     obtain ⟨hq24,hF⟩:=hF
     obtain ⟨hq25,hF⟩:=hF
     refine AtH.take [] hgd 6 R R R R (D':=#[Y,Y,Y,Y,Y,Y,Y,N,N,N,N,N,N,N,N,N,N,N,N,N,N,N,N,N,N,N,N,N,N,N,N,N,N,N,N,N,N,N,N,N,N,N,N]) (by kernel_rfl) (fun _ _ _ _ h=>h) R (does_not (ja R)) ?_
     refine AtH.take [] hgd 7 R R R R (D':=#[Y,Y,Y,Y,Y,Y,Y,Y,N,N,N,N,N,N,N,N,N,N,N,N,N,N,N,N,N,N,N,N,N,N,N,N,N,N,N,N,N,N,N,N,N,N,N]) (by kernel_rfl) (fun _ _ _ _ h=>h) R (jb (x:=(.tv kBool (!r5))) (ja R)) ?_
     refine AtH.vi [] hgd 8 R R R (jw R) R R (D':=#[Y,Y,Y,Y,Y,Y,Y,Y,Y,N,N,N,N,N,N,N,N,N,N,N,N,N,N,N,N,N,N,N,N,N,N,N,N,N,N,N,N,N,N,N,N,N,N]) (by kernel_rfl) (fun _ _ _ _ h=>h) R (fun hg271=>(jb (x:=(.tv (kSlice kTag) l1)) (ja R))) ?_
     refine AtH.vi [] hgd 9 R R R (jw R) R R (D':=#[Y,Y,Y,Y,Y,Y,Y,Y,Y,Y,N,N,N,N,N,N,N,N,N,N,N,N,N,N,N,N,N,N,N,N,N,N,N,N,N,N,N,N,N,N,N,N,N]) (by kernel_rfl) (fun _ _ _ _ h=>h) R (fun hg272=>(jb (x:=(.tv (kInt .i64) i6)) (ja R))) ?_
     refine AtH.vi [] hgd 10 R R R (jw R) R R (D':=#[Y,Y,Y,Y,Y,Y,Y,Y,Y,Y,Y,N,N,N,N,N,N,N,N,N,N,N,N,N,N,N,N,N,N,N,N,N,N,N,N,N,N,N,N,N,N,N,N]) (by kernel_rfl) (fun _ _ _ _ h=>h) R (fun hg273=>(vd zTag (jh R hg273) (jh R hg273) Tryz.underlying57 ty_73 (hq22 hg273))) ?_
     refine AtH.vi [] hgd 11 R R R (jw R) R R (D':=#[Y,Y,Y,Y,Y,Y,Y,Y,Y,Y,Y,Y,N,N,N,N,N,N,N,N,N,N,N,N,N,N,N,N,N,N,N,N,N,N,N,N,N,N,N,N,N,N,N]) (by kernel_rfl) (fun _ _ _ _ h=>h) R (fun hg274=>(Jb (K:=kTag) (jh R hg274) fa_73_1 sub_Tag_1)) ?_
     refine AtH.vi [] hgd 12 R R R (jw R) R R (D':=#[Y,Y,Y,Y,Y,Y,Y,Y,Y,Y,Y,Y,Y,N,N,N,N,N,N,N,N,N,N,N,N,N,N,N,N,N,N,N,N,N,N,N,N,N,N,N,N,N,N]) (by kernel_rfl) (fun _ _ _ _ h=>h) R (fun hg275=>(vo (K:=kStr) (jh R hg275) ty_9)) ?_
     refine AtH.vi [] hgd 13 R R R (jw R) R R (D':=#[Y,Y,Y,Y,Y,Y,Y,Y,Y,Y,Y,Y,Y,Y,N,N,N,N,N,N,N,N,N,N,N,N,N,N,N,N,N,N,N,N,N,N,N,N,N,N,N,N,N]) (by kernel_rfl) (fun _ _ _ _ h=>h) R (fun hg276=>(does_len_str (jh R hg276) Tryz.underlying9)) ?_
     refine AtH.vi [] hgd 14 R R R (jw R) R R (D':=#[Y,Y,Y,Y,Y,Y,Y,Y,Y,Y,Y,Y,Y,Y,Y,N,N,N,N,N,N,N,N,N,N,N,N,N,N,N,N,N,N,N,N,N,N,N,N,N,N,N,N]) (by kernel_rfl) (fun _ _ _ _ h=>h) R (fun hg277=>(jk (jh R hg277) (ji _ _) vc)) ?_
     refine AtH.take [] hgd 15 R R R R (D':=#[Y,Y,Y,Y,Y,Y,Y,Y,Y,Y,Y,Y,Y,Y,Y,Y,N,N,N,N,N,N,N,N,N,N,N,N,N,N,N,N,N,N,N,N,N,N,N,N,N,N,N]) (by kernel_rfl) (fun _ _ _ _ h=>h) R (jm (ja R) (jl _) (ja R) pick_or) ?_
     refine AtH.take [] hgd 16 R R R R (D':=#[Y,Y,Y,Y,Y,Y,Y,Y,Y,Y,Y,Y,Y,Y,Y,Y,Y,N,N,N,N,N,N,N,N,N,N,N,N,N,N,N,N,N,N,N,N,N,N,N,N,N,N]) (by kernel_rfl) (fun _ _ _ _ h=>h) R (jb (x:=(.tv kBool ((!r5)||(decide ((((rd zTag l1 i6).Value).size:Int)<(1:Int)))))) (ja R)) ?_
     refine AtH.vi [] hgd 17 R R R (jw R) R R (D':=#[Y,Y,Y,Y,Y,Y,Y,Y,Y,Y,Y,Y,Y,Y,Y,Y,Y,Y,N,N,N,N,N,N,N,N,N,N,N,N,N,N,N,N,N,N,N,N,N,N,N,N,N]) (by kernel_rfl) (fun _ _ _ _ h=>h) R (fun hg278=>(jb (x:=(.tv (kSlice kTag) l1)) (ja R))) ?_
     refine AtH.vi [] hgd 18 R R R (jw R) R R (D':=#[Y,Y,Y,Y,Y,Y,Y,Y,Y,Y,Y,Y,Y,Y,Y,Y,Y,Y,Y,N,N,N,N,N,N,N,N,N,N,N,N,N,N,N,N,N,N,N,N,N,N,N,N]) (by kernel_rfl) (fun _ _ _ _ h=>h) R (fun hg279=>(jb (x:=(.tv (kInt .i64) i6)) (ja R))) ?_
     refine AtH.vi [] hgd 19 R R R (jw R) R R (D':=#[Y,Y,Y,Y,Y,Y,Y,Y,Y,Y,Y,Y,Y,Y,Y,Y,Y,Y,Y,Y,N,N,N,N,N,N,N,N,N,N,N,N,N,N,N,N,N,N,N,N,N,N,N]) (by kernel_rfl) (fun _ _ _ _ h=>h) R (fun hg280=>(vd zTag (jh R hg280) (jh R hg280) Tryz.underlying57 ty_73 (hq23 hg280))) ?_
     refine AtH.vi [] hgd 20 R R R (jw R) R R (D':=#[Y,Y,Y,Y,Y,Y,Y,Y,Y,Y,Y,Y,Y,Y,Y,Y,Y,Y,Y,Y,Y,N,N,N,N,N,N,N,N,N,N,N,N,N,N,N,N,N,N,N,N,N,N]) (by kernel_rfl) (fun _ _ _ _ h=>h) R (fun hg281=>(Jb (K:=kTag) (jh R hg281) fa_73_1 sub_Tag_1)) ?_
     refine AtH.vi [] hgd 21 R R R (jw R) R R (D':=#[Y,Y,Y,Y,Y,Y,Y,Y,Y,Y,Y,Y,Y,Y,Y,Y,Y,Y,Y,Y,Y,Y,N,N,N,N,N,N,N,N,N,N,N,N,N,N,N,N,N,N,N,N,N]) (by kernel_rfl) (fun _ _ _ _ h=>h) R (fun hg282=>(vo (K:=kStr) (jh R hg282) ty_9)) ?_
     refine AtH.vi [] hgd 22 R R R (jw R) R R (D':=#[Y,Y,Y,Y,Y,Y,Y,Y,Y,Y,Y,Y,Y,Y,Y,Y,Y,Y,Y,Y,Y,Y,Y,N,N,N,N,N,N,N,N,N,N,N,N,N,N,N,N,N,N,N,N]) (by kernel_rfl) (fun _ _ _ _ h=>h) R (fun hg283=>(does_len_str (jh R hg283) Tryz.underlying9)) ?_
     refine AtH.vi [] hgd 23 R R R (jw R) R R (D':=#[Y,Y,Y,Y,Y,Y,Y,Y,Y,Y,Y,Y,Y,Y,Y,Y,Y,Y,Y,Y,Y,Y,Y,Y,N,N,N,N,N,N,N,N,N,N,N,N,N,N,N,N,N,N,N]) (by kernel_rfl) (fun _ _ _ _ h=>h) R (fun hg284=>(jk (jh R hg284) (ji _ _) bin_gtr)) ?_
     refine AtH.take [] hgd 24 R R R R (D':=#[Y,Y,Y,Y,Y,Y,Y,Y,Y,Y,Y,Y,Y,Y,Y,Y,Y,Y,Y,Y,Y,Y,Y,Y,Y,N,N,N,N,N,N,N,N,N,N,N,N,N,N,N,N,N,N]) (by kernel_rfl) (fun _ _ _ _ h=>h) R (jm (ja R) (jl _) (ja R) pick_or) ?_
     refine AtH.take [] hgd 25 R R R R (D':=#[Y,Y,Y,Y,Y,Y,Y,Y,Y,Y,Y,Y,Y,Y,Y,Y,Y,Y,Y,Y,Y,Y,Y,Y,Y,Y,N,N,N,N,N,N,N,N,N,N,N,N,N,N,N,N,N]) (by kernel_rfl) (fun _ _ _ _ h=>h) R (jb (x:=(.tv kBool (((!r5)||(decide ((((rd zTag l1 i6).Value).size:Int)<(1:Int))))||(decide ((200:Int)<(((rd zTag l1 i6).Value).size:Int)))))) (ja R)) ?_
     refine AtH.vi [] hgd 26 R R R (jw R) R R (D':=#[Y,Y,Y,Y,Y,Y,Y,Y,Y,Y,Y,Y,Y,Y,Y,Y,Y,Y,Y,Y,Y,Y,Y,Y,Y,Y,Y,N,N,N,N,N,N,N,N,N,N,N,N,N,N,N,N]) (by kernel_rfl) (fun _ _ _ _ h=>h) R (fun hg285=>(jb (x:=(.tv (kInt .i64) i6)) (ja R))) ?_
     refine AtH.vi [] hgd 27 R R R (jw R) R R (D':=#[Y,Y,Y,Y,Y,Y,Y,Y,Y,Y,Y,Y,Y,Y,Y,Y,Y,Y,Y,Y,Y,Y,Y,Y,Y,Y,Y,Y,N,N,N,N,N,N,N,N,N,N,N,N,N,N,N]) (by kernel_rfl) (fun _ _ _ _ h=>h) R (fun hg286=>(jk (jh R hg286) (ji _ _) bin_gtr)) ?_
     refine AtH.vi [] hgd 28 R R R (jw R) R R (D':=#[Y,Y,Y,Y,Y,Y,Y,Y,Y,Y,Y,Y,Y,Y,Y,Y,Y,Y,Y,Y,Y,Y,Y,Y,Y,Y,Y,Y,Y,N,N,N,N,N,N,N,N,N,N,N,N,N,N]) (by kernel_rfl) (fun _ _ _ _ h=>h) R (fun hg287=>(jb (x:=(.tv kBool (decide ((0:Int)<i6)))) (jh R hg287))) ?_
     refine AtH.vi [] hgd 29 R R R (ju R) R R (D':=#[Y,Y,Y,Y,Y,Y,Y,Y,Y,Y,Y,Y,Y,Y,Y,Y,Y,Y,Y,Y,Y,Y,Y,Y,Y,Y,Y,Y,Y,Y,N,N,N,N,N,N,N,N,N,N,N,N,N]) (by kernel_rfl) (fun _ _ _ _ h=>h) R (fun hg288=>(jb (x:=(.tv (kSlice kTag) l1)) (ja R))) ?_
     refine AtH.vi [] hgd 30 R R R (ju R) R R (D':=#[Y,Y,Y,Y,Y,Y,Y,Y,Y,Y,Y,Y,Y,Y,Y,Y,Y,Y,Y,Y,Y,Y,Y,Y,Y,Y,Y,Y,Y,Y,Y,N,N,N,N,N,N,N,N,N,N,N,N]) (by kernel_rfl) (fun _ _ _ _ h=>h) R (fun hg289=>(jb (x:=(.tv (kInt .i64) i6)) (ja R))) ?_
     refine AtH.vi [] hgd 31 R R R (ju R) R R (D':=#[Y,Y,Y,Y,Y,Y,Y,Y,Y,Y,Y,Y,Y,Y,Y,Y,Y,Y,Y,Y,Y,Y,Y,Y,Y,Y,Y,Y,Y,Y,Y,Y,N,N,N,N,N,N,N,N,N,N,N]) (by kernel_rfl) (fun _ _ _ _ h=>h) R (fun hg290=>(jk (jh R hg290) (ji _ _) bin_sub)) ?_
     refine AtH.vi [] hgd 32 R R R (ju R) R R (D':=#[Y,Y,Y,Y,Y,Y,Y,Y,Y,Y,Y,Y,Y,Y,Y,Y,Y,Y,Y,Y,Y,Y,Y,Y,Y,Y,Y,Y,Y,Y,Y,Y,Y,N,N,N,N,N,N,N,N,N,N]) (by kernel_rfl) (fun _ _ _ _ h=>h) R (fun hg291=>(vd zTag (jh R hg291) (jh R hg291) Tryz.underlying57 ty_73 (hq24 hg291))) ?_
     refine AtH.vi [] hgd 33 R R R (ju R) R R (D':=#[Y,Y,Y,Y,Y,Y,Y,Y,Y,Y,Y,Y,Y,Y,Y,Y,Y,Y,Y,Y,Y,Y,Y,Y,Y,Y,Y,Y,Y,Y,Y,Y,Y,Y,N,N,N,N,N,N,N,N,N]) (by kernel_rfl) (fun _ _ _ _ h=>h) R (fun hg292=>(Jb (K:=kTag) (jh R hg292) fa_73_0 sub_Tag_0)) ?_
     refine AtH.vi [] hgd 34 R R R (ju R) R R (D':=#[Y,Y,Y,Y,Y,Y,Y,Y,Y,Y,Y,Y,Y,Y,Y,Y,Y,Y,Y,Y,Y,Y,Y,Y,Y,Y,Y,Y,Y,Y,Y,Y,Y,Y,Y,N,N,N,N,N,N,N,N]) (by kernel_rfl) (fun _ _ _ _ h=>h) R (fun hg293=>(vo (K:=kStr) (jh R hg293) ty_9)) ?_
     refine AtH.vi [] hgd 35 R R R (ju R) R R (D':=#[Y,Y,Y,Y,Y,Y,Y,Y,Y,Y,Y,Y,Y,Y,Y,Y,Y,Y,Y,Y,Y,Y,Y,Y,Y,Y,Y,Y,Y,Y,Y,Y,Y,Y,Y,Y,N,N,N,N,N,N,N]) (by kernel_rfl) (fun _ _ _ _ h=>h) R (fun hg294=>(jb (x:=(.tv (kSlice kTag) l1)) (ja R))) ?_
     refine AtH.vi [] hgd 36 R R R (ju R) R R (D':=#[Y,Y,Y,Y,Y,Y,Y,Y,Y,Y,Y,Y,Y,Y,Y,Y,Y,Y,Y,Y,Y,Y,Y,Y,Y,Y,Y,Y,Y,Y,Y,Y,Y,Y,Y,Y,Y,N,N,N,N,N,N]) (by kernel_rfl) (fun _ _ _ _ h=>h) R (fun hg295=>(jb (x:=(.tv (kInt .i64) i6)) (ja R))) ?_
     refine AtH.vi [] hgd 37 R R R (ju R) R R (D':=#[Y,Y,Y,Y,Y,Y,Y,Y,Y,Y,Y,Y,Y,Y,Y,Y,Y,Y,Y,Y,Y,Y,Y,Y,Y,Y,Y,Y,Y,Y,Y,Y,Y,Y,Y,Y,Y,Y,N,N,N,N,N]) (by kernel_rfl) (fun _ _ _ _ h=>h) R (fun hg296=>(vd zTag (jh R hg296) (jh R hg296) Tryz.underlying57 ty_73 (hq25 hg296))) ?_
     refine AtH.vi [] hgd 38 R R R (ju R) R R (D':=#[Y,Y,Y,Y,Y,Y,Y,Y,Y,Y,Y,Y,Y,Y,Y,Y,Y,Y,Y,Y,Y,Y,Y,Y,Y,Y,Y,Y,Y,Y,Y,Y,Y,Y,Y,Y,Y,Y,Y,N,N,N,N]) (by kernel_rfl) (fun _ _ _ _ h=>h) R (fun hg297=>(Jb (K:=kTag) (jh R hg297) fa_73_0 sub_Tag_0)) ?_
     refine AtH.vi [] hgd 39 R R R (ju R) R R (D':=#[Y,Y,Y,Y,Y,Y,Y,Y,Y,Y,Y,Y,Y,Y,Y,Y,Y,Y,Y,Y,Y,Y,Y,Y,Y,Y,Y,Y,Y,Y,Y,Y,Y,Y,Y,Y,Y,Y,Y,Y,N,N,N]) (by kernel_rfl) (fun _ _ _ _ h=>h) R (fun hg298=>(vo (K:=kStr) (jh R hg298) ty_9)) ?_
     refine AtH.vi [] hgd 40 R R R (ju R) R R (D':=#[Y,Y,Y,Y,Y,Y,Y,Y,Y,Y,Y,Y,Y,Y,Y,Y,Y,Y,Y,Y,Y,Y,Y,Y,Y,Y,Y,Y,Y,Y,Y,Y,Y,Y,Y,Y,Y,Y,Y,Y,Y,N,N]) (by kernel_rfl) (fun _ _ _ _ h=>h) R (fun hg299=>(jk (jh R hg299) (jh R hg299) bin_sgeq)) ?_
     refine AtH.vi [] hgd 41 R R R (jw R) R R (D':=#[Y,Y,Y,Y,Y,Y,Y,Y,Y,Y,Y,Y,Y,Y,Y,Y,Y,Y,Y,Y,Y,Y,Y,Y,Y,Y,Y,Y,Y,Y,Y,Y,Y,Y,Y,Y,Y,Y,Y,Y,Y,Y,N]) (by kernel_rfl) (fun _ _ _ _ h=>h) R (fun hg300=>(jm (jh R hg300) (ja R) (jl _) (pick_andG (and_of hg300)))) ?_
     refine AtH.take [] hgd 42 R R R R (D':=#[Y,Y,Y,Y,Y,Y,Y,Y,Y,Y,Y,Y,Y,Y,Y,Y,Y,Y,Y,Y,Y,Y,Y,Y,Y,Y,Y,Y,Y,Y,Y,Y,Y,Y,Y,Y,Y,Y,Y,Y,Y,Y,Y]) (by kernel_rfl) (fun _ _ _ _ h=>h) R (jm (ja R) (jl _) (ja R) pick_or) ?_
     refine AtH.done (by kernel_rfl) ?_
     refine At.vf ?_
     refine At.cond (ja R) (fun hb11=>?_) (fun hb11=>?_)
     ·replace hF:=W.ite_t hb11 hF
      refine At.seq (At.region (At.d R R R R (jd (x:=(.tv kBool false)) (jl _)) ?_))
      refine At.done (At.vf (At.ret ?_))
      refine At.q ?_
      refine At.vg (At.vg ?_)
      refine At.q ?_
      refine At.vg ?_
      exact At.j rfl (rv_tmp rfl) [] rfl ⟨false,hF,rfl,rfl⟩
     ·replace hF:=W.ite_f hb11 hF
      refine At.skip ?_
      refine At.n ?_
      refine At.vf (At.region (At.d R R R R (jb (x:=(.tv (kInt .i64) i6)) (ja R)) ?_))
      refine At.d R R R R (jk (ja R) (ji _ _) jz) ?_
      refine At.d R R R R (jd (x:=(.tv (kInt .i64) (w64 (i6+(1:Int))))) (ja R)) ?_
      refine At.done (At.vf ?_)
      refine At.w [] R [(0,(.tv (kSlice kTag) l1)),(3,(.tv (kInt .i64) (w64 (i6+(1:Int)))))] ⟨R,R,trivial⟩ (At.r ⟨(w64 (i6+(1:Int))),hF,R,R⟩)
    ·replace hF:=W.ite_f hb10 hF
     refine At.exit ?_
     refine At.x (At.x ?_)
     refine At.h ?_
     refine At.vf ?_
     refine At.w [] R [] trivial (At.r ⟨(),hF,R,R⟩)
  ·rintro _ _ ⟨_,hF,rfl,rfl⟩
   unfold ref11_Tags.c1 at hF
   refine At.seq (At.region (At.d R R R R (jd (x:=(.tv kBool true)) (jl _)) ?_))
   refine At.done (At.vf (At.ret ?_))
   exact At.j rfl (rv_tmp rfl) [] rfl ⟨true,hF,rfl,rfl⟩
def ref11_Word.F (kind1:Int):W BA:=W.ite ((decide (kind1<(1:Int)))||(decide ((5:Int)<kind1))) (W.ret (⟨#[]⟩:BA)) (W.req (0≤kind1∧kind1<(([(⟨#[]⟩:BA),(⟨#[110,111,100,101]⟩:BA),(⟨#[119,97,121]⟩:BA),(⟨#[97,114,101,97]⟩:BA),(⟨#[114,111,117,116,101]⟩:BA),(⟨#[116,117,114,110]⟩:BA)]:List BA).length:Int)) (W.req (0≤kind1∧kind1<(([(⟨#[]⟩:BA),(⟨#[110,111,100,101]⟩:BA),(⟨#[119,97,121]⟩:BA),(⟨#[97,114,101,97]⟩:BA),(⟨#[114,111,117,116,101]⟩:BA),(⟨#[116,117,114,110]⟩:BA)]:List BA).length:Int)) (W.ret (rd (⟨#[]⟩:BA) ([(⟨#[]⟩:BA),(⟨#[110,111,100,101]⟩:BA),(⟨#[119,97,121]⟩:BA),(⟨#[97,114,101,97]⟩:BA),(⟨#[114,111,117,116,101]⟩:BA),(⟨#[116,117,114,110]⟩:BA)]:List BA) kind1))))
theorem ref11_Word.ok {kind1:Int} {Q:BA→Prop} (hF:ref11_Word.F kind1 Q):Con Tryz.prog 125 [.tv (kInt .i64) kind1] [] (fun ta rs'=>∃ (r:BA),Q r∧ta=.tv kStr r∧rs'=[]):=by
 refine Con.i Tryz.func125 Tryz.ntmps125 R R (fun C=>?_)
 unfold ref11_Word.F at hF
 refine At.seq (At.region (At.d R R R R (jd (x:=(.tv kStr (⟨#[]⟩:BA))) (ve _)) ?_))
 refine At.done (At.vf (At.seq (At.region (At.f R (eff_lit R R R (os:=[.const (.string (⟨#[]⟩:BA)),.const (.string (⟨#[110,111,100,101]⟩:BA)),.const (.string (⟨#[119,97,121]⟩:BA)),.const (.string (⟨#[97,114,101,97]⟩:BA)),.const (.string (⟨#[114,111,117,116,101]⟩:BA)),.const (.string (⟨#[116,117,114,110]⟩:BA))]) R sl_41 (xs:=([(⟨#[]⟩:BA),(⟨#[110,111,100,101]⟩:BA),(⟨#[119,97,121]⟩:BA),(⟨#[97,114,101,97]⟩:BA),(⟨#[114,111,117,116,101]⟩:BA),(⟨#[116,117,114,110]⟩:BA)]:List BA)) (jf (ve _) (jf (ve _) (jf (ve _) (jf (ve _) (jf (ve _) (jf (ve _) jg)))))) R R) ?_))))
 rintro _ _ ⟨v1,rfl,rfl⟩
 refine At.d R R R R (jd (x:=(.eq v1)) (ja R)) ?_
 refine At.done (At.vf (At.seq (At.seq (At.region (At.d R R R R (jb (x:=(.tv (kInt .i64) kind1)) (ja R)) ?_)))))
 refine At.d R R R R (jk (ja R) (ji _ _) vc) ?_
 refine At.d R R R R (jb (x:=(.tv kBool (decide (kind1<(1:Int))))) (ja R)) ?_
 refine At.vh R R R R (jw R) R (fun hg1=>(jb (x:=(.tv (kInt .i64) kind1)) (ja R))) ?_
 refine At.vh R R R R (jw R) R (fun hg2=>(jk (jh R hg2) (ji _ _) bin_gtr)) ?_
 refine At.d R R R R (jm (ja R) (jl _) (ja R) pick_or) ?_
 refine At.done (At.vf ?_)
 refine At.cond (ja R) (fun hb1=>?_) (fun hb1=>?_)
 ·replace hF:=W.ite_t hb1 hF
  refine At.seq (At.region (At.d R R R R (jd (x:=(.tv kStr (⟨#[]⟩:BA))) (ve _)) ?_))
  refine At.done (At.vf (At.ret (At.vg ?_)))
  exact At.j rfl (rv_tmp rfl) [] rfl ⟨(⟨#[]⟩:BA),hF,rfl,rfl⟩
 ·replace hF:=W.ite_f hb1 hF
  refine At.skip (At.vf (At.seq (At.region (At.d R R R R (jb (x:=(.eq v1)) (ja R)) ?_))))
  refine At.d R R R R (jb (x:=(.tv (kInt .i64) kind1)) (ja R)) ?_
  obtain ⟨hq1,hF⟩:=hF
  refine At.d R R R R (does_idx_row (ja R) 0 R (ja R) Tryz.underlying41 ty_9 hq1) ?_
  obtain ⟨hq2,hF⟩:=hF
  refine At.d R R R R (Ja (ja R) 0 R kind1 0 R (⟨#[]⟩:BA) hq2 (Sub.self kStr) ty_9) ?_
  refine At.d R R R R (jd (x:=(.tv kStr (rd (⟨#[]⟩:BA) ([(⟨#[]⟩:BA),(⟨#[110,111,100,101]⟩:BA),(⟨#[119,97,121]⟩:BA),(⟨#[97,114,101,97]⟩:BA),(⟨#[114,111,117,116,101]⟩:BA),(⟨#[116,117,114,110]⟩:BA)]:List BA) kind1))) (ja R)) ?_
  refine At.done (At.vf (At.ret ?_))
  exact At.j rfl (rv_tmp rfl) [] rfl ⟨(rd (⟨#[]⟩:BA) ([(⟨#[]⟩:BA),(⟨#[110,111,100,101]⟩:BA),(⟨#[119,97,121]⟩:BA),(⟨#[97,114,101,97]⟩:BA),(⟨#[114,111,117,116,101]⟩:BA),(⟨#[116,117,114,110]⟩:BA)]:List BA) kind1),hF,rfl,rfl⟩
def ref11_refs.c1 (o1:Object):W Bool:=W.ite (o1.Kind==(1:Int)) (W.ret ((o1.Refs.length:Int)==(0:Int))) (W.ite (o1.Kind==(2:Int)) (W.ret (decide ((2:Int)≤(o1.Refs.length:Int)))) (W.ite (o1.Kind==(3:Int)) (W.ret (decide ((3:Int)≤(o1.Refs.length:Int)))) (W.ite (o1.Kind==(4:Int)) (W.ret (decide ((1:Int)≤(o1.Refs.length:Int)))) (W.ret ((o1.Refs.length:Int)==(3:Int))))))
def ref11_refs.l1 (o1:Object) (K1:W Bool) (A1:(List (BA×Bool))→Int→W Bool) (x6:(List (BA×Bool))) (i6:Int):W Bool:=W.ite (decide (i6<(o1.Refs.length:Int))) (W.req (0≤i6∧i6<(o1.Refs.length:Int)) (W.bind (ref08_Name.F (rd (⟨#[]⟩:BA) o1.Refs i6)) (fun r5=>W.req (((!(!r5))&&((o1.Kind==(2:Int))&&(decide ((0:Int)<i6))))=true→0≤(w64 (i6-(1:Int)))∧(w64 (i6-(1:Int)))<(o1.Refs.length:Int)) (W.req (((!(!r5))&&((o1.Kind==(2:Int))&&(decide ((0:Int)<i6))))=true→0≤i6∧i6<(o1.Refs.length:Int)) (W.req (((!((!r5)||(((o1.Kind==(2:Int))&&(decide ((0:Int)<i6)))&&(sEq (rd (⟨#[]⟩:BA) o1.Refs (w64 (i6-(1:Int)))) (rd (⟨#[]⟩:BA) o1.Refs i6)))))&&(o1.Kind==(3:Int)))=true→0≤i6∧i6<(o1.Refs.length:Int)) (W.ite (((!r5)||(((o1.Kind==(2:Int))&&(decide ((0:Int)<i6)))&&(sEq (rd (⟨#[]⟩:BA) o1.Refs (w64 (i6-(1:Int)))) (rd (⟨#[]⟩:BA) o1.Refs i6))))||((o1.Kind==(3:Int))&&(mget (rd (⟨#[]⟩:BA) o1.Refs i6) false x6))) (W.ret false) (W.req (0≤i6∧i6<(o1.Refs.length:Int)) (A1 (mset (rd (⟨#[]⟩:BA) o1.Refs i6) true x6) (w64 (i6+(1:Int))))))))))) (K1)
def ref11_refs.F (o1:Object):W Bool:=W.ite (decide ((2000:Int)<(o1.Refs.length:Int))) (W.ret false) (W.ex fun n=>W.iter2 (ref11_refs.l1 o1 (ref11_refs.c1 o1)) n ([]:(List (BA×Bool))) (0:Int))
theorem ref11_refs.ok {o1:Object} {Q:Bool→Prop} (hF:ref11_refs.F o1 Q):Con Tryz.prog 127 [.tv kObject o1] [] (fun ta rs'=>∃ (r:Bool),Q r∧ta=.tv kBool r∧rs'=[]):=by
 refine Con.i Tryz.func127 Tryz.ntmps127 R R (fun C=>?_)
 unfold ref11_refs.F at hF
 refine At.seq (At.region (At.f R (eff_box R R R (ja R)) ?_))
 rintro _ _ ⟨g1,rfl,rfl⟩
 refine At.d R R R R (jd (x:=(.tv kBool false)) (jl _)) ?_
 refine At.done (At.vf (At.seq (At.region (At.d R R R R (je (ja R) fa_59_3) ?_))))
 refine At.d R R R R (jc (ja R) 0 R sub_Object_3 ty_41) ?_
 refine At.d R R R R (jt (ja R) Tryz.underlying41) ?_
 refine At.d R R R R (jd (x:=(.tv (kInt .i64) (o1.Refs.length:Int))) (ja R)) ?_
 refine At.done (At.vf (At.seq (At.seq (At.region (At.d R R R R (jb (x:=(.tv (kInt .i64) (o1.Refs.length:Int))) (ja R)) ?_)))))
 refine At.d R R R R (jk (ja R) (ji _ _) bin_gtr) ?_
 refine At.done (At.vf ?_)
 refine At.cond (ja R) (fun hb1=>?_) (fun hb1=>?_)
 ·replace hF:=W.ite_t hb1 hF
  refine At.seq (At.region (At.d R R R R (jd (x:=(.tv kBool false)) (jl _)) ?_))
  refine At.done (At.vf (At.ret (At.vg ?_)))
  exact At.j rfl (rv_tmp rfl) [] rfl ⟨false,hF,rfl,rfl⟩
 ·replace hF:=W.ite_f hb1 hF
  refine At.skip (At.vf (At.seq (At.region (At.f R (eff_makeMap R R R kStr kBool) ?_))))
  rintro _ _ ⟨g2,rfl,rfl⟩
  refine At.d R R R R (jd (x:=(.eq (.map (some g2)))) (ja R)) ?_
  refine At.done (At.vf ?_)
  refine At.cut (fun rs L=>∃ _:Unit,ref11_refs.c1 o1 Q∧rs=[.box g1 59 kObject o1]∧L=mkL [(1,(.eq (.pointer (some ⟨g1,0,none⟩)))),(3,(.tv (kInt .i64) (o1.Refs.length:Int)))]) ?_ ?_
  ·refine At.seq (At.region (At.d R R R R (jd (x:=(.tv (kInt .i64) (0:Int))) (ji _ _)) ?_))
   refine At.done (At.vf (At.block ?_))
   obtain ⟨n1,hF⟩:=hF
   refine At.w [1,0] R [(1,(.eq (.pointer (some ⟨g1,0,none⟩)))),(3,(.tv (kInt .i64) (o1.Refs.length:Int))),(4,(.eq (.map (some g2)))),(5,(.tv (kInt .i64) (0:Int)))] ⟨R,R,R,R,trivial⟩ ?_
   refine At.loop (fun m rs L=>∃ (x6:(List (BA×Bool))) (i6:Int),W.iter2 (ref11_refs.l1 o1 (ref11_refs.c1 o1)) m x6 i6 Q∧rs=[.box g1 59 kObject o1,.map g2 kStr kBool x6]∧L=mkL [(1,(.eq (.pointer (some ⟨g1,0,none⟩)))),(3,(.tv (kInt .i64) (o1.Refs.length:Int))),(4,(.eq (.map (some g2)))),(5,(.tv (kInt .i64) i6))]) ?_ ?_ (m:=n1) ⟨([]:(List (BA×Bool))),(0:Int),hF,R,R⟩
   ·rintro rs L ⟨_,_,hF,_,_⟩;exact hF
   ·rintro m1 _ _ ⟨x6,i6,hF,rfl,rfl⟩
    replace hF:=W.iter2_s hF
    unfold ref11_refs.l1 at hF
    refine At.seq (At.seq (At.region (At.d R R R R (jb (x:=(.tv (kInt .i64) i6)) (ja R)) ?_)))
    refine At.d R R R R (jb (x:=(.tv (kInt .i64) (o1.Refs.length:Int))) (ja R)) ?_
    refine At.d R R R R (jk (ja R) (ja R) vc) ?_
    refine At.done (At.vf ?_)
    refine At.cond (ja R) (fun hb14=>?_) (fun hb14=>?_)
    ·replace hF:=W.ite_t hb14 hF
     refine At.skip (At.vf (At.seq (At.block (At.seq (At.seq ?_)))))
     refine At.draw mixed [0,1] R [[],[]] (fun φ w hgd=>?_)
     obtain ⟨hq21,hF⟩:=hF
     replace hF:=W.vk hF
     refine AtH.take [0,1] hgd 0 R R R R (D':=#[Y,N,N,N,N,N,N,N,N,N,N,N,N,N,N,N,N,N,N,N,N,N,N,N,N,N,N,N,N,N,N,N,N,N,N,N,N,N,N,N,N,N,N,N]) (by kernel_rfl) (fun _ _ _ _ h=>h) R (je (ja R) fa_59_3) ?_
     refine AtH.take [0,1] hgd 1 R R R R (D':=#[Y,Y,N,N,N,N,N,N,N,N,N,N,N,N,N,N,N,N,N,N,N,N,N,N,N,N,N,N,N,N,N,N,N,N,N,N,N,N,N,N,N,N,N,N]) (by kernel_rfl) (fun _ _ _ _ h=>h) R (jc (ja R) 0 R sub_Object_3 ty_41) ?_
     refine AtH.take [0,1] hgd 2 R R R R (D':=#[Y,Y,Y,N,N,N,N,N,N,N,N,N,N,N,N,N,N,N,N,N,N,N,N,N,N,N,N,N,N,N,N,N,N,N,N,N,N,N,N,N,N,N,N,N]) (by kernel_rfl) (fun _ _ _ _ h=>h) R (jb (x:=(.tv (kInt .i64) i6)) (ja R)) ?_
     refine AtH.take [0,1] hgd 3 R R R R (D':=#[Y,Y,Y,Y,N,N,N,N,N,N,N,N,N,N,N,N,N,N,N,N,N,N,N,N,N,N,N,N,N,N,N,N,N,N,N,N,N,N,N,N,N,N,N,N]) (by kernel_rfl) (fun _ _ _ _ h=>h) R (vd (⟨#[]⟩:BA) (ja R) (ja R) Tryz.underlying41 ty_9 hq21) ?_
     refine AtH.take [0,1] hgd 4 R R R R (D':=#[Y,Y,Y,Y,Y,N,N,N,N,N,N,N,N,N,N,N,N,N,N,N,N,N,N,N,N,N,N,N,N,N,N,N,N,N,N,N,N,N,N,N,N,N,N,N]) (by kernel_rfl) (fun _ _ _ _ h=>h) R (vo (K:=kStr) (ja R) ty_9) ?_
     refine AtH.all1 5 (by kernel_rfl) ?_
     refine AtH.f [(0,0),(1,1)] R R R R R R (jn R R jp (jq R en_124 (jf (ja R) jg)) (ref08_Name.ok hF) (by rintro _ _ ⟨r,_,rfl,_⟩;exact vj)) (D':=#[Y,Y,Y,Y,Y,Y,N,N,N,N,N,N,N,N,N,N,N,N,N,N,N,N,N,N,N,N,N,N,N,N,N,N,N,N,N,N,N,N,N,N,N,N,N,N]) (by kernel_rfl) (by kernel_rfl) ?_
     rintro _ _ ⟨_,_,⟨r5,hF,rfl,rfl⟩,rfl,rfl⟩
     refine ⟨_,.inr ⟨R,vj⟩,?_⟩
     obtain ⟨hq22,hF⟩:=hF
     obtain ⟨hq23,hF⟩:=hF
     obtain ⟨hq24,hF⟩:=hF
     refine AtH.take [0,1] hgd 6 R R R R (D':=#[Y,Y,Y,Y,Y,Y,Y,N,N,N,N,N,N,N,N,N,N,N,N,N,N,N,N,N,N,N,N,N,N,N,N,N,N,N,N,N,N,N,N,N,N,N,N,N]) (by kernel_rfl) (fun _ _ _ _ h=>h) R (does_not (ja R)) ?_
     refine AtH.take [0,1] hgd 7 R R R R (D':=#[Y,Y,Y,Y,Y,Y,Y,Y,N,N,N,N,N,N,N,N,N,N,N,N,N,N,N,N,N,N,N,N,N,N,N,N,N,N,N,N,N,N,N,N,N,N,N,N]) (by kernel_rfl) (fun _ _ _ _ h=>h) R (jb (x:=(.tv kBool (!r5))) (ja R)) ?_
     refine AtH.vi [0,1] hgd 8 R R R (jw R) R R (D':=#[Y,Y,Y,Y,Y,Y,Y,Y,Y,N,N,N,N,N,N,N,N,N,N,N,N,N,N,N,N,N,N,N,N,N,N,N,N,N,N,N,N,N,N,N,N,N,N,N]) (by kernel_rfl) (fun _ _ _ _ h=>h) R (fun hg298=>(je (ja R) fa_59_1)) ?_
     refine AtH.vi [0,1] hgd 9 R R R (jw R) R R (D':=#[Y,Y,Y,Y,Y,Y,Y,Y,Y,Y,N,N,N,N,N,N,N,N,N,N,N,N,N,N,N,N,N,N,N,N,N,N,N,N,N,N,N,N,N,N,N,N,N,N]) (by kernel_rfl) (fun _ _ _ _ h=>h) R (fun hg299=>(jc (jh R hg299) 0 R sub_Object_1 ty_3)) ?_
     refine AtH.vi [0,1] hgd 10 R R R (jw R) R R (D':=#[Y,Y,Y,Y,Y,Y,Y,Y,Y,Y,Y,N,N,N,N,N,N,N,N,N,N,N,N,N,N,N,N,N,N,N,N,N,N,N,N,N,N,N,N,N,N,N,N,N]) (by kernel_rfl) (fun _ _ _ _ h=>h) R (fun hg300=>(jk (jh R hg300) (ji _ _) bin_eql)) ?_
     refine AtH.vi [0,1] hgd 11 R R R (jw R) R R (D':=#[Y,Y,Y,Y,Y,Y,Y,Y,Y,Y,Y,Y,N,N,N,N,N,N,N,N,N,N,N,N,N,N,N,N,N,N,N,N,N,N,N,N,N,N,N,N,N,N,N,N]) (by kernel_rfl) (fun _ _ _ _ h=>h) R (fun hg301=>(jb (x:=(.tv kBool (o1.Kind==(2:Int)))) (jh R hg301))) ?_
     refine AtH.vi [0,1] hgd 12 R R R (ju R) R R (D':=#[Y,Y,Y,Y,Y,Y,Y,Y,Y,Y,Y,Y,Y,N,N,N,N,N,N,N,N,N,N,N,N,N,N,N,N,N,N,N,N,N,N,N,N,N,N,N,N,N,N,N]) (by kernel_rfl) (fun _ _ _ _ h=>h) R (fun hg302=>(jb (x:=(.tv (kInt .i64) i6)) (ja R))) ?_
     refine AtH.vi [0,1] hgd 13 R R R (ju R) R R (D':=#[Y,Y,Y,Y,Y,Y,Y,Y,Y,Y,Y,Y,Y,Y,N,N,N,N,N,N,N,N,N,N,N,N,N,N,N,N,N,N,N,N,N,N,N,N,N,N,N,N,N,N]) (by kernel_rfl) (fun _ _ _ _ h=>h) R (fun hg303=>(jk (jh R hg303) (ji _ _) bin_gtr)) ?_
     refine AtH.vi [0,1] hgd 14 R R R (jw R) R R (D':=#[Y,Y,Y,Y,Y,Y,Y,Y,Y,Y,Y,Y,Y,Y,Y,N,N,N,N,N,N,N,N,N,N,N,N,N,N,N,N,N,N,N,N,N,N,N,N,N,N,N,N,N]) (by kernel_rfl) (fun _ _ _ _ h=>h) R (fun hg304=>(jm (jh R hg304) (ja R) (jl _) (pick_andG (and_of hg304)))) ?_
     refine AtH.vi [0,1] hgd 15 R R R (jw R) R R (D':=#[Y,Y,Y,Y,Y,Y,Y,Y,Y,Y,Y,Y,Y,Y,Y,Y,N,N,N,N,N,N,N,N,N,N,N,N,N,N,N,N,N,N,N,N,N,N,N,N,N,N,N,N]) (by kernel_rfl) (fun _ _ _ _ h=>h) R (fun hg305=>(jb (x:=(.tv kBool ((o1.Kind==(2:Int))&&(decide ((0:Int)<i6))))) (jh R hg305))) ?_
     refine AtH.vi [0,1] hgd 16 R R R (ju R) R R (D':=#[Y,Y,Y,Y,Y,Y,Y,Y,Y,Y,Y,Y,Y,Y,Y,Y,Y,N,N,N,N,N,N,N,N,N,N,N,N,N,N,N,N,N,N,N,N,N,N,N,N,N,N,N]) (by kernel_rfl) (fun _ _ _ _ h=>h) R (fun hg306=>(je (ja R) fa_59_3)) ?_
     refine AtH.vi [0,1] hgd 17 R R R (ju R) R R (D':=#[Y,Y,Y,Y,Y,Y,Y,Y,Y,Y,Y,Y,Y,Y,Y,Y,Y,Y,N,N,N,N,N,N,N,N,N,N,N,N,N,N,N,N,N,N,N,N,N,N,N,N,N,N]) (by kernel_rfl) (fun _ _ _ _ h=>h) R (fun hg307=>(jc (jh R hg307) 0 R sub_Object_3 ty_41)) ?_
     refine AtH.vi [0,1] hgd 18 R R R (ju R) R R (D':=#[Y,Y,Y,Y,Y,Y,Y,Y,Y,Y,Y,Y,Y,Y,Y,Y,Y,Y,Y,N,N,N,N,N,N,N,N,N,N,N,N,N,N,N,N,N,N,N,N,N,N,N,N,N]) (by kernel_rfl) (fun _ _ _ _ h=>h) R (fun hg308=>(jb (x:=(.tv (kInt .i64) i6)) (ja R))) ?_
     refine AtH.vi [0,1] hgd 19 R R R (ju R) R R (D':=#[Y,Y,Y,Y,Y,Y,Y,Y,Y,Y,Y,Y,Y,Y,Y,Y,Y,Y,Y,Y,N,N,N,N,N,N,N,N,N,N,N,N,N,N,N,N,N,N,N,N,N,N,N,N]) (by kernel_rfl) (fun _ _ _ _ h=>h) R (fun hg309=>(jk (jh R hg309) (ji _ _) bin_sub)) ?_
     refine AtH.vi [0,1] hgd 20 R R R (ju R) R R (D':=#[Y,Y,Y,Y,Y,Y,Y,Y,Y,Y,Y,Y,Y,Y,Y,Y,Y,Y,Y,Y,Y,N,N,N,N,N,N,N,N,N,N,N,N,N,N,N,N,N,N,N,N,N,N,N]) (by kernel_rfl) (fun _ _ _ _ h=>h) R (fun hg310=>(vd (⟨#[]⟩:BA) (jh R hg310) (jh R hg310) Tryz.underlying41 ty_9 (hq22 hg310))) ?_
     refine AtH.vi [0,1] hgd 21 R R R (ju R) R R (D':=#[Y,Y,Y,Y,Y,Y,Y,Y,Y,Y,Y,Y,Y,Y,Y,Y,Y,Y,Y,Y,Y,Y,N,N,N,N,N,N,N,N,N,N,N,N,N,N,N,N,N,N,N,N,N,N]) (by kernel_rfl) (fun _ _ _ _ h=>h) R (fun hg311=>(vo (K:=kStr) (jh R hg311) ty_9)) ?_
     refine AtH.vi [0,1] hgd 22 R R R (ju R) R R (D':=#[Y,Y,Y,Y,Y,Y,Y,Y,Y,Y,Y,Y,Y,Y,Y,Y,Y,Y,Y,Y,Y,Y,Y,N,N,N,N,N,N,N,N,N,N,N,N,N,N,N,N,N,N,N,N,N]) (by kernel_rfl) (fun _ _ _ _ h=>h) R (fun hg312=>(je (ja R) fa_59_3)) ?_
     refine AtH.vi [0,1] hgd 23 R R R (ju R) R R (D':=#[Y,Y,Y,Y,Y,Y,Y,Y,Y,Y,Y,Y,Y,Y,Y,Y,Y,Y,Y,Y,Y,Y,Y,Y,N,N,N,N,N,N,N,N,N,N,N,N,N,N,N,N,N,N,N,N]) (by kernel_rfl) (fun _ _ _ _ h=>h) R (fun hg313=>(jc (jh R hg313) 0 R sub_Object_3 ty_41)) ?_
     refine AtH.vi [0,1] hgd 24 R R R (ju R) R R (D':=#[Y,Y,Y,Y,Y,Y,Y,Y,Y,Y,Y,Y,Y,Y,Y,Y,Y,Y,Y,Y,Y,Y,Y,Y,Y,N,N,N,N,N,N,N,N,N,N,N,N,N,N,N,N,N,N,N]) (by kernel_rfl) (fun _ _ _ _ h=>h) R (fun hg314=>(jb (x:=(.tv (kInt .i64) i6)) (ja R))) ?_
     refine AtH.vi [0,1] hgd 25 R R R (ju R) R R (D':=#[Y,Y,Y,Y,Y,Y,Y,Y,Y,Y,Y,Y,Y,Y,Y,Y,Y,Y,Y,Y,Y,Y,Y,Y,Y,Y,N,N,N,N,N,N,N,N,N,N,N,N,N,N,N,N,N,N]) (by kernel_rfl) (fun _ _ _ _ h=>h) R (fun hg315=>(vd (⟨#[]⟩:BA) (jh R hg315) (jh R hg315) Tryz.underlying41 ty_9 (hq23 hg315))) ?_
     refine AtH.vi [0,1] hgd 26 R R R (ju R) R R (D':=#[Y,Y,Y,Y,Y,Y,Y,Y,Y,Y,Y,Y,Y,Y,Y,Y,Y,Y,Y,Y,Y,Y,Y,Y,Y,Y,Y,N,N,N,N,N,N,N,N,N,N,N,N,N,N,N,N,N]) (by kernel_rfl) (fun _ _ _ _ h=>h) R (fun hg316=>(vo (K:=kStr) (jh R hg316) ty_9)) ?_
     refine AtH.vi [0,1] hgd 27 R R R (ju R) R R (D':=#[Y,Y,Y,Y,Y,Y,Y,Y,Y,Y,Y,Y,Y,Y,Y,Y,Y,Y,Y,Y,Y,Y,Y,Y,Y,Y,Y,Y,N,N,N,N,N,N,N,N,N,N,N,N,N,N,N,N]) (by kernel_rfl) (fun _ _ _ _ h=>h) R (fun hg317=>(jk (jh R hg317) (jh R hg317) bin_seql)) ?_
     refine AtH.vi [0,1] hgd 28 R R R (jw R) R R (D':=#[Y,Y,Y,Y,Y,Y,Y,Y,Y,Y,Y,Y,Y,Y,Y,Y,Y,Y,Y,Y,Y,Y,Y,Y,Y,Y,Y,Y,Y,N,N,N,N,N,N,N,N,N,N,N,N,N,N,N]) (by kernel_rfl) (fun _ _ _ _ h=>h) R (fun hg318=>(jm (jh R hg318) (ja R) (jl _) (pick_andG (and_of hg318)))) ?_
     refine AtH.take [0,1] hgd 29 R R R R (D':=#[Y,Y,Y,Y,Y,Y,Y,Y,Y,Y,Y,Y,Y,Y,Y,Y,Y,Y,Y,Y,Y,Y,Y,Y,Y,Y,Y,Y,Y,Y,N,N,N,N,N,N,N,N,N,N,N,N,N,N]) (by kernel_rfl) (fun _ _ _ _ h=>h) R (jm (ja R) (jl _) (ja R) pick_or) ?_
     refine AtH.take [0,1] hgd 30 R R R R (D':=#[Y,Y,Y,Y,Y,Y,Y,Y,Y,Y,Y,Y,Y,Y,Y,Y,Y,Y,Y,Y,Y,Y,Y,Y,Y,Y,Y,Y,Y,Y,Y,N,N,N,N,N,N,N,N,N,N,N,N,N]) (by kernel_rfl) (fun _ _ _ _ h=>h) R (jb (x:=(.tv kBool ((!r5)||(((o1.Kind==(2:Int))&&(decide ((0:Int)<i6)))&&(sEq (rd (⟨#[]⟩:BA) o1.Refs (w64 (i6-(1:Int)))) (rd (⟨#[]⟩:BA) o1.Refs i6)))))) (ja R)) ?_
     refine AtH.vi [0,1] hgd 31 R R R (jw R) R R (D':=#[Y,Y,Y,Y,Y,Y,Y,Y,Y,Y,Y,Y,Y,Y,Y,Y,Y,Y,Y,Y,Y,Y,Y,Y,Y,Y,Y,Y,Y,Y,Y,Y,N,N,N,N,N,N,N,N,N,N,N,N]) (by kernel_rfl) (fun _ _ _ _ h=>h) R (fun hg319=>(je (ja R) fa_59_1)) ?_
     refine AtH.vi [0,1] hgd 32 R R R (jw R) R R (D':=#[Y,Y,Y,Y,Y,Y,Y,Y,Y,Y,Y,Y,Y,Y,Y,Y,Y,Y,Y,Y,Y,Y,Y,Y,Y,Y,Y,Y,Y,Y,Y,Y,Y,N,N,N,N,N,N,N,N,N,N,N]) (by kernel_rfl) (fun _ _ _ _ h=>h) R (fun hg320=>(jc (jh R hg320) 0 R sub_Object_1 ty_3)) ?_
     refine AtH.vi [0,1] hgd 33 R R R (jw R) R R (D':=#[Y,Y,Y,Y,Y,Y,Y,Y,Y,Y,Y,Y,Y,Y,Y,Y,Y,Y,Y,Y,Y,Y,Y,Y,Y,Y,Y,Y,Y,Y,Y,Y,Y,Y,N,N,N,N,N,N,N,N,N,N]) (by kernel_rfl) (fun _ _ _ _ h=>h) R (fun hg321=>(jk (jh R hg321) (ji _ _) bin_eql)) ?_
     refine AtH.vi [0,1] hgd 34 R R R (jw R) R R (D':=#[Y,Y,Y,Y,Y,Y,Y,Y,Y,Y,Y,Y,Y,Y,Y,Y,Y,Y,Y,Y,Y,Y,Y,Y,Y,Y,Y,Y,Y,Y,Y,Y,Y,Y,Y,N,N,N,N,N,N,N,N,N]) (by kernel_rfl) (fun _ _ _ _ h=>h) R (fun hg322=>(jb (x:=(.tv kBool (o1.Kind==(3:Int)))) (jh R hg322))) ?_
     refine AtH.vi [0,1] hgd 35 R R R (ju R) R R (D':=#[Y,Y,Y,Y,Y,Y,Y,Y,Y,Y,Y,Y,Y,Y,Y,Y,Y,Y,Y,Y,Y,Y,Y,Y,Y,Y,Y,Y,Y,Y,Y,Y,Y,Y,Y,Y,N,N,N,N,N,N,N,N]) (by kernel_rfl) (fun _ _ _ _ h=>h) R (fun hg323=>(jb (x:=(.eq (.map (some g2)))) (ja R))) ?_
     refine AtH.vi [0,1] hgd 36 R R R (ju R) R R (D':=#[Y,Y,Y,Y,Y,Y,Y,Y,Y,Y,Y,Y,Y,Y,Y,Y,Y,Y,Y,Y,Y,Y,Y,Y,Y,Y,Y,Y,Y,Y,Y,Y,Y,Y,Y,Y,Y,N,N,N,N,N,N,N]) (by kernel_rfl) (fun _ _ _ _ h=>h) R (fun hg324=>(je (ja R) fa_59_3)) ?_
     refine AtH.vi [0,1] hgd 37 R R R (ju R) R R (D':=#[Y,Y,Y,Y,Y,Y,Y,Y,Y,Y,Y,Y,Y,Y,Y,Y,Y,Y,Y,Y,Y,Y,Y,Y,Y,Y,Y,Y,Y,Y,Y,Y,Y,Y,Y,Y,Y,Y,N,N,N,N,N,N]) (by kernel_rfl) (fun _ _ _ _ h=>h) R (fun hg325=>(jc (jh R hg325) 0 R sub_Object_3 ty_41)) ?_
     refine AtH.vi [0,1] hgd 38 R R R (ju R) R R (D':=#[Y,Y,Y,Y,Y,Y,Y,Y,Y,Y,Y,Y,Y,Y,Y,Y,Y,Y,Y,Y,Y,Y,Y,Y,Y,Y,Y,Y,Y,Y,Y,Y,Y,Y,Y,Y,Y,Y,Y,N,N,N,N,N]) (by kernel_rfl) (fun _ _ _ _ h=>h) R (fun hg326=>(jb (x:=(.tv (kInt .i64) i6)) (ja R))) ?_
     refine AtH.vi [0,1] hgd 39 R R R (ju R) R R (D':=#[Y,Y,Y,Y,Y,Y,Y,Y,Y,Y,Y,Y,Y,Y,Y,Y,Y,Y,Y,Y,Y,Y,Y,Y,Y,Y,Y,Y,Y,Y,Y,Y,Y,Y,Y,Y,Y,Y,Y,Y,N,N,N,N]) (by kernel_rfl) (fun _ _ _ _ h=>h) R (fun hg327=>(vd (⟨#[]⟩:BA) (jh R hg327) (jh R hg327) Tryz.underlying41 ty_9 (hq24 hg327))) ?_
     refine AtH.vi [0,1] hgd 40 R R R (ju R) R R (D':=#[Y,Y,Y,Y,Y,Y,Y,Y,Y,Y,Y,Y,Y,Y,Y,Y,Y,Y,Y,Y,Y,Y,Y,Y,Y,Y,Y,Y,Y,Y,Y,Y,Y,Y,Y,Y,Y,Y,Y,Y,Y,N,N,N]) (by kernel_rfl) (fun _ _ _ _ h=>h) R (fun hg328=>(vo (K:=kStr) (jh R hg328) ty_9)) ?_
     refine AtH.vi [0,1] hgd 41 R R R (ju R) R R (D':=#[Y,Y,Y,Y,Y,Y,Y,Y,Y,Y,Y,Y,Y,Y,Y,Y,Y,Y,Y,Y,Y,Y,Y,Y,Y,Y,Y,Y,Y,Y,Y,Y,Y,Y,Y,Y,Y,Y,Y,Y,Y,Y,N,N]) (by kernel_rfl) (fun _ _ _ _ h=>h) R (fun hg329=>(does_look (jh R hg329) 1 R mt_56 (jh R hg329))) ?_
     refine AtH.vi [0,1] hgd 42 R R R (jw R) R R (D':=#[Y,Y,Y,Y,Y,Y,Y,Y,Y,Y,Y,Y,Y,Y,Y,Y,Y,Y,Y,Y,Y,Y,Y,Y,Y,Y,Y,Y,Y,Y,Y,Y,Y,Y,Y,Y,Y,Y,Y,Y,Y,Y,Y,N]) (by kernel_rfl) (fun _ _ _ _ h=>h) R (fun hg330=>(jm (jh R hg330) (ja R) (jl _) (pick_andG (and_of hg330)))) ?_
     refine AtH.take [0,1] hgd 43 R R R R (D':=#[Y,Y,Y,Y,Y,Y,Y,Y,Y,Y,Y,Y,Y,Y,Y,Y,Y,Y,Y,Y,Y,Y,Y,Y,Y,Y,Y,Y,Y,Y,Y,Y,Y,Y,Y,Y,Y,Y,Y,Y,Y,Y,Y,Y]) (by kernel_rfl) (fun _ _ _ _ h=>h) R (jm (ja R) (jl _) (ja R) pick_or) ?_
     refine AtH.done (by kernel_rfl) ?_
     refine At.vf ?_
     refine At.cond (ja R) (fun hb15=>?_) (fun hb15=>?_)
     ·replace hF:=W.ite_t hb15 hF
      refine At.seq (At.region (At.d R R R R (jd (x:=(.tv kBool false)) (jl _)) ?_))
      refine At.done (At.vf (At.ret (At.vg ?_)))
      refine At.q ?_
      refine At.vg (At.vg ?_)
      refine At.q ?_
      refine At.vg ?_
      exact At.j rfl (rv_tmp rfl) [] rfl ⟨false,hF,rfl,rfl⟩
     ·replace hF:=W.ite_f hb15 hF
      refine At.skip (At.vf (At.region (At.d R R R R (jb (x:=(.eq (.map (some g2)))) (ja R)) ?_)))
      refine At.d R R R R (je (ja R) fa_59_3) ?_
      refine At.d R R R R (jc (ja R) 0 R sub_Object_3 ty_41) ?_
      refine At.d R R R R (jb (x:=(.tv (kInt .i64) i6)) (ja R)) ?_
      obtain ⟨hq25,hF⟩:=hF
      refine At.d R R R R (vd (⟨#[]⟩:BA) (ja R) (ja R) Tryz.underlying41 ty_9 hq25) ?_
      refine At.d R R R R (vo (K:=kStr) (ja R) ty_9) ?_
      refine At.f R (eff_mapUpdate R R (ja R) 1 R mt_56 (ja R) (jl _)) ?_
      rintro _ _ ⟨rfl,rfl⟩
      refine At.done ?_
      refine At.n ?_
      refine At.vf (At.region (At.d R R R R (jb (x:=(.tv (kInt .i64) i6)) (ja R)) ?_))
      refine At.d R R R R (jk (ja R) (ji _ _) jz) ?_
      refine At.d R R R R (jd (x:=(.tv (kInt .i64) (w64 (i6+(1:Int))))) (ja R)) ?_
      refine At.done (At.vf ?_)
      refine At.w [0,1] R [(1,(.eq (.pointer (some ⟨g1,0,none⟩)))),(3,(.tv (kInt .i64) (o1.Refs.length:Int))),(4,(.eq (.map (some g2)))),(5,(.tv (kInt .i64) (w64 (i6+(1:Int)))))] ⟨R,R,R,R,trivial⟩ (At.r ⟨(mset (rd (⟨#[]⟩:BA) o1.Refs i6) true x6),(w64 (i6+(1:Int))),hF,R,R⟩)
    ·replace hF:=W.ite_f hb14 hF
     refine At.exit ?_
     refine At.x (At.x ?_)
     refine At.h ?_
     refine At.vf ?_
     refine At.w [0] R [(1,(.eq (.pointer (some ⟨g1,0,none⟩)))),(3,(.tv (kInt .i64) (o1.Refs.length:Int)))] ⟨R,R,trivial⟩ (At.r ⟨(),hF,R,R⟩)
  ·rintro _ _ ⟨_,hF,rfl,rfl⟩
   unfold ref11_refs.c1 at hF
   refine At.seq (At.seq (At.region (At.d R R R R (je (ja R) fa_59_1) ?_)))
   refine At.d R R R R (jc (ja R) 0 R sub_Object_1 ty_3) ?_
   refine At.done (At.vf (At.block (At.seq (At.region (At.d R R R R (jk (ja R) (ji _ _) bin_eql) ?_)))))
   refine At.d R R R R (jd (x:=(.tv kBool (o1.Kind==(1:Int)))) (ja R)) ?_
   refine At.done (At.vf ?_)
   refine At.cond (ja R) (fun hb6=>?_) (fun hb6=>?_)
   ·replace hF:=W.ite_t hb6 hF
    refine At.seq (At.region (At.d R R R R (jb (x:=(.tv (kInt .i64) (o1.Refs.length:Int))) (ja R)) ?_))
    refine At.d R R R R (jk (ja R) (ji _ _) bin_eql) ?_
    refine At.d R R R R (jd (x:=(.tv kBool ((o1.Refs.length:Int)==(0:Int)))) (ja R)) ?_
    refine At.done (At.vf (At.ret ?_))
    refine At.q ?_
    refine At.vg ?_
    exact At.j rfl (rv_tmp rfl) [] rfl ⟨((o1.Refs.length:Int)==(0:Int)),hF,rfl,rfl⟩
   ·replace hF:=W.ite_f hb6 hF
    refine At.seq (At.region (At.d R R R R (jk (ja R) (ji _ _) bin_eql) ?_))
    refine At.d R R R R (jd (x:=(.tv kBool (o1.Kind==(2:Int)))) (ja R)) ?_
    refine At.done (At.vf ?_)
    refine At.cond (ja R) (fun hb7=>?_) (fun hb7=>?_)
    ·replace hF:=W.ite_t hb7 hF
     refine At.seq (At.region (At.d R R R R (jb (x:=(.tv (kInt .i64) (o1.Refs.length:Int))) (ja R)) ?_))
     refine At.d R R R R (jk (ja R) (ji _ _) bin_geq) ?_
     refine At.d R R R R (jd (x:=(.tv kBool (decide ((2:Int)≤(o1.Refs.length:Int))))) (ja R)) ?_
     refine At.done (At.vf (At.ret ?_))
     refine At.q ?_
     refine At.vg ?_
     exact At.j rfl (rv_tmp rfl) [] rfl ⟨(decide ((2:Int)≤(o1.Refs.length:Int))),hF,rfl,rfl⟩
    ·replace hF:=W.ite_f hb7 hF
     refine At.seq (At.region (At.d R R R R (jk (ja R) (ji _ _) bin_eql) ?_))
     refine At.d R R R R (jd (x:=(.tv kBool (o1.Kind==(3:Int)))) (ja R)) ?_
     refine At.done (At.vf ?_)
     refine At.cond (ja R) (fun hb8=>?_) (fun hb8=>?_)
     ·replace hF:=W.ite_t hb8 hF
      refine At.seq (At.region (At.d R R R R (jb (x:=(.tv (kInt .i64) (o1.Refs.length:Int))) (ja R)) ?_))
      refine At.d R R R R (jk (ja R) (ji _ _) bin_geq) ?_
      refine At.d R R R R (jd (x:=(.tv kBool (decide ((3:Int)≤(o1.Refs.length:Int))))) (ja R)) ?_
      refine At.done (At.vf (At.ret ?_))
      refine At.q ?_
      refine At.vg ?_
      exact At.j rfl (rv_tmp rfl) [] rfl ⟨(decide ((3:Int)≤(o1.Refs.length:Int))),hF,rfl,rfl⟩
     ·replace hF:=W.ite_f hb8 hF
      refine At.seq (At.region (At.d R R R R (jk (ja R) (ji _ _) bin_eql) ?_))
      refine At.d R R R R (jd (x:=(.tv kBool (o1.Kind==(4:Int)))) (ja R)) ?_
      refine At.done (At.vf ?_)
      refine At.cond (ja R) (fun hb9=>?_) (fun hb9=>?_)
      ·replace hF:=W.ite_t hb9 hF
       refine At.seq (At.region (At.d R R R R (jb (x:=(.tv (kInt .i64) (o1.Refs.length:Int))) (ja R)) ?_))
       refine At.d R R R R (jk (ja R) (ji _ _) bin_geq) ?_
       refine At.d R R R R (jd (x:=(.tv kBool (decide ((1:Int)≤(o1.Refs.length:Int))))) (ja R)) ?_
       refine At.done (At.vf (At.ret ?_))
       refine At.q ?_
       refine At.vg ?_
       exact At.j rfl (rv_tmp rfl) [] rfl ⟨(decide ((1:Int)≤(o1.Refs.length:Int))),hF,rfl,rfl⟩
      ·replace hF:=W.ite_f hb9 hF
       refine At.skip ?_
       refine At.n ?_
       refine At.vf (At.seq (At.region (At.d R R R R (jb (x:=(.tv (kInt .i64) (o1.Refs.length:Int))) (ja R)) ?_)))
       refine At.d R R R R (jk (ja R) (ji _ _) bin_eql) ?_
       refine At.d R R R R (jd (x:=(.tv kBool ((o1.Refs.length:Int)==(3:Int)))) (ja R)) ?_
       refine At.done (At.vf (At.ret ?_))
       exact At.j rfl (rv_tmp rfl) [] rfl ⟨((o1.Refs.length:Int)==(3:Int)),hF,rfl,rfl⟩
def ref11_Valid.c1 (o1:Object) (at1:Bool):W Bool:=W.bind (ref08_Name.F o1.Id) (fun r2=>W.bind (W.ite r2 (ref11_Word.F o1.Kind) (W.ret (⟨#[]⟩:BA))) (fun r3=>W.bind (W.ite ((r2&&(!(sEq r3 (⟨#[]⟩:BA))))&&at1) (ref11_Tags.F o1.Tags) (W.ret false)) (fun r4=>W.bind (W.ite (((r2&&(!(sEq r3 (⟨#[]⟩:BA))))&&at1)&&r4) (ref11_refs.F o1) (W.ret false)) (fun r5=>W.ret ((((r2&&(!(sEq r3 (⟨#[]⟩:BA))))&&at1)&&r4)&&r5)))))
def ref11_Valid.F (o1:Object):W Bool:=W.bind (ref11_On.F o1.At) (fun r1=>W.ite (o1.Kind != (1:Int)) ((ref11_Valid.c1 o1) (eq_Point o1.At (⟨(0:Int),(0:Int)⟩:Point))) ((ref11_Valid.c1 o1) r1))
theorem ref11_Valid.ok {o1:Object} {Q:Bool→Prop} (hF:ref11_Valid.F o1 Q):Con Tryz.prog 75 [.tv kObject o1] [] (fun ta rs'=>∃ (r:Bool),Q r∧ta=.tv kBool r∧rs'=[]):=by
 refine Con.i Tryz.func75 Tryz.ntmps75 R R (fun C=>?_)
 unfold ref11_Valid.F at hF
 refine At.seq (At.region (At.f R (eff_box R R R (ja R)) ?_))
 rintro _ _ ⟨g1,rfl,rfl⟩
 refine At.d R R R R (jd (x:=(.tv kBool false)) (jl _)) ?_
 refine At.done (At.vf (At.seq (At.region (At.d R R R R (je (ja R) fa_59_2) ?_))))
 refine At.d R R R R (jc (ja R) 0 R sub_Object_2 ty_37) ?_
 replace hF:=W.vk hF
 refine At.f R (jn R R jp (jq R en_123 (jf (ja R) jg)) (ref11_On.ok hF) (by rintro _ _ ⟨r,_,rfl,_⟩;exact vj)) ?_
 rintro _ _ ⟨_,_,⟨r1,hF,rfl,rfl⟩,rfl,rfl⟩
 refine At.d R R R R (jd (x:=(.tv kBool r1)) (ja R)) ?_
 refine At.done (At.vf ?_)
 refine At.cut (fun rs L=>∃ (at1:Bool),ref11_Valid.c1 o1 at1 Q∧rs=[.box g1 59 kObject o1]∧L=mkL [(1,(.eq (.pointer (some ⟨g1,0,none⟩)))),(3,(.tv kBool at1))]) ?_ ?_
 ·refine At.seq (At.region (At.d R R R R (je (ja R) fa_59_1) ?_))
  refine At.d R R R R (jc (ja R) 0 R sub_Object_1 ty_3) ?_
  refine At.d R R R R (jk (ja R) (ji _ _) bin_neq) ?_
  refine At.done (At.vf ?_)
  refine At.cond (ja R) (fun hb2=>?_) (fun hb2=>?_)
  ·replace hF:=W.ite_t hb2 hF
   refine At.region (At.d R R R R (je (ja R) fa_59_2) ?_)
   refine At.d R R R R (jc (ja R) 0 R sub_Object_2 ty_37) ?_
   refine At.d R R R R (jy js zr_37 bd_37 R fills_nil) ?_
   refine At.d R R R R (jk (ja R) (ja R) (bin_eq eqty_37)) ?_
   refine At.d R R R R (jd (x:=(.tv kBool (eq_Point o1.At (⟨(0:Int),(0:Int)⟩:Point)))) (ja R)) ?_
   refine At.done (At.vf ?_)
   refine At.w [0] R [(1,(.eq (.pointer (some ⟨g1,0,none⟩)))),(3,(.tv kBool (eq_Point o1.At (⟨(0:Int),(0:Int)⟩:Point))))] ⟨R,R,trivial⟩ (At.r ⟨(eq_Point o1.At (⟨(0:Int),(0:Int)⟩:Point)),hF,R,R⟩)
  ·replace hF:=W.ite_f hb2 hF
   refine At.skip (At.vf ?_)
   refine At.w [0] R [(1,(.eq (.pointer (some ⟨g1,0,none⟩)))),(3,(.tv kBool r1))] ⟨R,R,trivial⟩ (At.r ⟨r1,hF,R,R⟩)
 ·rintro _ _ ⟨at1,hF,rfl,rfl⟩
  unfold ref11_Valid.c1 at hF
  refine At.seq (At.region (At.d R R R R (je (ja R) fa_59_0) ?_))
  refine At.d R R R R (jc (ja R) 0 R sub_Object_0 ty_9) ?_
  replace hF:=W.vk hF
  refine At.f R (jn R R jp (jq R en_124 (jf (ja R) jg)) (ref08_Name.ok hF) (by rintro _ _ ⟨r,_,rfl,_⟩;exact vj)) ?_
  rintro _ _ ⟨_,_,⟨r2,hF,rfl,rfl⟩,rfl,rfl⟩
  refine At.d R R R R (jb (x:=(.tv kBool r2)) (ja R)) ?_
  refine At.vh R R R R (jv R) R (fun hg1=>(je (ja R) fa_59_1)) ?_
  refine At.vh R R R R (jv R) R (fun hg2=>(jc (jh R hg2) 0 R sub_Object_1 ty_3)) ?_
  replace hF:=W.vk hF
  refine At.effG R R R R (jv R) hF (fun r=>.tv kStr r) (fun hg3 hF=>eff_of (jn R R jp (jq R en_125 (jf (jh R hg3) jg)) (ref11_Word.ok hF) (by rintro _ _ ⟨r,_,rfl,_⟩;exact flat_str)) (by rintro _ _ ⟨_,_,⟨r,hF,rfl,rfl⟩,rfl,rfl⟩;exact ⟨r,hF,R,R⟩)) (fun r3 hF=>?_)
  refine At.vh R R R R (jv R) R (fun hg4=>(jk (jh R hg4) (ve _) bin_sneq)) ?_
  refine At.d R R R R (jm (ja R) (ja R) (jl _) pick_and) ?_
  refine At.d R R R R (jb (x:=(.tv kBool (r2&&(!(sEq r3 (⟨#[]⟩:BA)))))) (ja R)) ?_
  refine At.vh R R R R (jv R) R (fun hg5=>(jb (x:=(.tv kBool at1)) (ja R))) ?_
  refine At.d R R R R (jm (ja R) (ja R) (jl _) pick_and) ?_
  refine At.d R R R R (jb (x:=(.tv kBool ((r2&&(!(sEq r3 (⟨#[]⟩:BA))))&&at1))) (ja R)) ?_
  refine At.vh R R R R (jv R) R (fun hg6=>(je (ja R) fa_59_4)) ?_
  refine At.vh R R R R (jv R) R (fun hg7=>(jc (jh R hg7) 0 R sub_Object_4 ty_57)) ?_
  replace hF:=W.vk hF
  refine At.effG R R R R (jv R) hF (fun r=>.tv kBool r) (fun hg8 hF=>eff_of (jn R R jp (jq R en_126 (jf (jh R hg8) jg)) (ref11_Tags.ok hF) (by rintro _ _ ⟨r,_,rfl,_⟩;exact vj)) (by rintro _ _ ⟨_,_,⟨r,hF,rfl,rfl⟩,rfl,rfl⟩;exact ⟨r,hF,R,R⟩)) (fun r4 hF=>?_)
  refine At.d R R R R (jm (ja R) (ja R) (jl _) pick_and) ?_
  refine At.d R R R R (jb (x:=(.tv kBool (((r2&&(!(sEq r3 (⟨#[]⟩:BA))))&&at1)&&r4))) (ja R)) ?_
  refine At.vh R R R R (jv R) R (fun hg9=>(jc (ja R) 0 R (Sub.self kObject) ty_59)) ?_
  replace hF:=W.vk hF
  refine At.effG R R R R (jv R) hF (fun r=>.tv kBool r) (fun hg10 hF=>eff_of (jn R R jp (jq R en_127 (jf (jh R hg10) jg)) (ref11_refs.ok hF) (by rintro _ _ ⟨r,_,rfl,_⟩;exact vj)) (by rintro _ _ ⟨_,_,⟨r,hF,rfl,rfl⟩,rfl,rfl⟩;exact ⟨r,hF,R,R⟩)) (fun r5 hF=>?_)
  refine At.d R R R R (jm (ja R) (ja R) (jl _) pick_and) ?_
  refine At.d R R R R (jd (x:=(.tv kBool ((((r2&&(!(sEq r3 (⟨#[]⟩:BA))))&&at1)&&r4)&&r5))) (ja R)) ?_
  refine At.done (At.vf (At.ret ?_))
  exact At.j rfl (rv_tmp rfl) [] rfl ⟨((((r2&&(!(sEq r3 (⟨#[]⟩:BA))))&&at1)&&r4)&&r5),hF,rfl,rfl⟩
def ref13_Valid.c1:W Bool:=W.ret true
def ref13_Valid.l1 (m1:Map) (K1:W Bool) (A1:Int→W Bool) (i6:Int):W Bool:=W.ite (decide (i6<(m1.Objects.length:Int))) (W.req (0≤i6∧i6<(m1.Objects.length:Int)) (W.bind (ref11_Valid.F (rd zObject m1.Objects i6)) (fun r5=>W.req (((!(!r5))&&(decide ((0:Int)<i6)))=true→0≤(w64 (i6-(1:Int)))∧(w64 (i6-(1:Int)))<(m1.Objects.length:Int)) (W.req (((!(!r5))&&(decide ((0:Int)<i6)))=true→0≤i6∧i6<(m1.Objects.length:Int)) (W.ite ((!r5)||((decide ((0:Int)<i6))&&(!(sLt ((rd zObject m1.Objects (w64 (i6-(1:Int)))).Id) ((rd zObject m1.Objects i6).Id))))) (W.ret false) (A1 (w64 (i6+(1:Int))))))))) (K1)
def ref13_Valid.F (m1:Map):W Bool:=W.ite (decide ((1000000:Int)<(m1.Objects.length:Int))) (W.ret false) (W.ex fun n=>W.iter1 (ref13_Valid.l1 m1 (ref13_Valid.c1)) n (0:Int))
theorem ref13_Valid.ok {m1:Map} {Q:Bool→Prop} (hF:ref13_Valid.F m1 Q):Con Tryz.prog 47 [.tv kMap m1] [] (fun ta rs'=>∃ (r:Bool),Q r∧ta=.tv kBool r∧rs'=[]):=by
 refine Con.i Tryz.func47 Tryz.ntmps47 R R (fun C=>?_)
 unfold ref13_Valid.F at hF
 refine At.seq (At.region (At.f R (eff_box R R R (ja R)) ?_))
 rintro _ _ ⟨g1,rfl,rfl⟩
 refine At.d R R R R (jd (x:=(.tv kBool false)) (jl _)) ?_
 refine At.done (At.vf (At.seq (At.seq (At.region (At.d R R R R (je (ja R) fa_24_0) ?_)))))
 refine At.d R R R R (jc (ja R) 0 R sub_Map_0 ty_22) ?_
 refine At.d R R R R (jt (ja R) Tryz.underlying22) ?_
 refine At.d R R R R (jk (ja R) (ji _ _) bin_gtr) ?_
 refine At.done (At.vf ?_)
 refine At.cond (ja R) (fun hb1=>?_) (fun hb1=>?_)
 ·replace hF:=W.ite_t hb1 hF
  refine At.seq (At.region (At.d R R R R (jd (x:=(.tv kBool false)) (jl _)) ?_))
  refine At.done (At.vf (At.ret (At.vg ?_)))
  exact At.j rfl (rv_tmp rfl) [] rfl ⟨false,hF,rfl,rfl⟩
 ·replace hF:=W.ite_f hb1 hF
  refine At.skip (At.vf ?_)
  refine At.cut (fun rs L=>∃ _:Unit,ref13_Valid.c1 Q∧rs=[]∧L=mkL []) ?_ ?_
  ·refine At.seq (At.region (At.d R R R R (jd (x:=(.tv (kInt .i64) (0:Int))) (ji _ _)) ?_))
   refine At.done (At.vf (At.block ?_))
   obtain ⟨n1,hF⟩:=hF
   refine At.w [0] R [(1,(.eq (.pointer (some ⟨g1,0,none⟩)))),(3,(.tv (kInt .i64) (0:Int)))] ⟨R,R,trivial⟩ ?_
   refine At.loop (fun m rs L=>∃ (i6:Int),W.iter1 (ref13_Valid.l1 m1 (ref13_Valid.c1)) m i6 Q∧rs=[.box g1 24 kMap m1]∧L=mkL [(1,(.eq (.pointer (some ⟨g1,0,none⟩)))),(3,(.tv (kInt .i64) i6))]) ?_ ?_ (m:=n1) ⟨(0:Int),hF,R,R⟩
   ·rintro rs L ⟨_,hF,_,_⟩;exact hF
   ·rintro m2 _ _ ⟨i6,hF,rfl,rfl⟩
    replace hF:=W.iter1_s hF
    unfold ref13_Valid.l1 at hF
    refine At.seq (At.seq (At.region (At.d R R R R (jb (x:=(.tv (kInt .i64) i6)) (ja R)) ?_)))
    refine At.d R R R R (je (ja R) fa_24_0) ?_
    refine At.d R R R R (jc (ja R) 0 R sub_Map_0 ty_22) ?_
    refine At.d R R R R (jt (ja R) Tryz.underlying22) ?_
    refine At.d R R R R (jk (ja R) (ja R) vc) ?_
    refine At.done (At.vf ?_)
    refine At.cond (ja R) (fun hb10=>?_) (fun hb10=>?_)
    ·replace hF:=W.ite_t hb10 hF
     refine At.skip (At.vf (At.seq (At.block (At.seq ?_))))
     refine At.draw mixed [0] R [[]] (fun φ w hgd=>?_)
     obtain ⟨hq13,hF⟩:=hF
     replace hF:=W.vk hF
     refine AtH.take [0] hgd 0 R R R R (D':=#[Y,N,N,N,N,N,N,N,N,N,N,N,N,N,N,N,N,N,N,N,N,N,N,N,N,N,N]) (by kernel_rfl) (fun _ _ _ _ h=>h) R (je (ja R) fa_24_0) ?_
     refine AtH.take [0] hgd 1 R R R R (D':=#[Y,Y,N,N,N,N,N,N,N,N,N,N,N,N,N,N,N,N,N,N,N,N,N,N,N,N,N]) (by kernel_rfl) (fun _ _ _ _ h=>h) R (jc (ja R) 0 R sub_Map_0 ty_22) ?_
     refine AtH.take [0] hgd 2 R R R R (D':=#[Y,Y,Y,N,N,N,N,N,N,N,N,N,N,N,N,N,N,N,N,N,N,N,N,N,N,N,N]) (by kernel_rfl) (fun _ _ _ _ h=>h) R (jb (x:=(.tv (kInt .i64) i6)) (ja R)) ?_
     refine AtH.take [0] hgd 3 R R R R (D':=#[Y,Y,Y,Y,N,N,N,N,N,N,N,N,N,N,N,N,N,N,N,N,N,N,N,N,N,N,N]) (by kernel_rfl) (fun _ _ _ _ h=>h) R (vd zObject (ja R) (ja R) Tryz.underlying22 ty_59 hq13) ?_
     refine AtH.take [0] hgd 4 R R R R (D':=#[Y,Y,Y,Y,Y,N,N,N,N,N,N,N,N,N,N,N,N,N,N,N,N,N,N,N,N,N,N]) (by kernel_rfl) (fun _ _ _ _ h=>h) R (vo (K:=kObject) (ja R) ty_59) ?_
     refine AtH.all1 5 (by kernel_rfl) ?_
     refine AtH.f [(0,0)] R R R R R R (jn R R jp (jq R en_75 (jf (ja R) jg)) (ref11_Valid.ok hF) (by rintro _ _ ⟨r,_,rfl,_⟩;exact vj)) (D':=#[Y,Y,Y,Y,Y,Y,N,N,N,N,N,N,N,N,N,N,N,N,N,N,N,N,N,N,N,N,N]) (by kernel_rfl) (by kernel_rfl) ?_
     rintro _ _ ⟨_,_,⟨r5,hF,rfl,rfl⟩,rfl,rfl⟩
     refine ⟨_,.inr ⟨R,vj⟩,?_⟩
     obtain ⟨hq14,hF⟩:=hF
     obtain ⟨hq15,hF⟩:=hF
     refine AtH.take [0] hgd 6 R R R R (D':=#[Y,Y,Y,Y,Y,Y,Y,N,N,N,N,N,N,N,N,N,N,N,N,N,N,N,N,N,N,N,N]) (by kernel_rfl) (fun _ _ _ _ h=>h) R (does_not (ja R)) ?_
     refine AtH.take [0] hgd 7 R R R R (D':=#[Y,Y,Y,Y,Y,Y,Y,Y,N,N,N,N,N,N,N,N,N,N,N,N,N,N,N,N,N,N,N]) (by kernel_rfl) (fun _ _ _ _ h=>h) R (jb (x:=(.tv kBool (!r5))) (ja R)) ?_
     refine AtH.vi [0] hgd 8 R R R (jw R) R R (D':=#[Y,Y,Y,Y,Y,Y,Y,Y,Y,N,N,N,N,N,N,N,N,N,N,N,N,N,N,N,N,N,N]) (by kernel_rfl) (fun _ _ _ _ h=>h) R (fun hg163=>(jb (x:=(.tv (kInt .i64) i6)) (ja R))) ?_
     refine AtH.vi [0] hgd 9 R R R (jw R) R R (D':=#[Y,Y,Y,Y,Y,Y,Y,Y,Y,Y,N,N,N,N,N,N,N,N,N,N,N,N,N,N,N,N,N]) (by kernel_rfl) (fun _ _ _ _ h=>h) R (fun hg164=>(jk (jh R hg164) (ji _ _) bin_gtr)) ?_
     refine AtH.vi [0] hgd 10 R R R (jw R) R R (D':=#[Y,Y,Y,Y,Y,Y,Y,Y,Y,Y,Y,N,N,N,N,N,N,N,N,N,N,N,N,N,N,N,N]) (by kernel_rfl) (fun _ _ _ _ h=>h) R (fun hg165=>(jb (x:=(.tv kBool (decide ((0:Int)<i6)))) (jh R hg165))) ?_
     refine AtH.vi [0] hgd 11 R R R (ju R) R R (D':=#[Y,Y,Y,Y,Y,Y,Y,Y,Y,Y,Y,Y,N,N,N,N,N,N,N,N,N,N,N,N,N,N,N]) (by kernel_rfl) (fun _ _ _ _ h=>h) R (fun hg166=>(je (ja R) fa_24_0)) ?_
     refine AtH.vi [0] hgd 12 R R R (ju R) R R (D':=#[Y,Y,Y,Y,Y,Y,Y,Y,Y,Y,Y,Y,Y,N,N,N,N,N,N,N,N,N,N,N,N,N,N]) (by kernel_rfl) (fun _ _ _ _ h=>h) R (fun hg167=>(jc (jh R hg167) 0 R sub_Map_0 ty_22)) ?_
     refine AtH.vi [0] hgd 13 R R R (ju R) R R (D':=#[Y,Y,Y,Y,Y,Y,Y,Y,Y,Y,Y,Y,Y,Y,N,N,N,N,N,N,N,N,N,N,N,N,N]) (by kernel_rfl) (fun _ _ _ _ h=>h) R (fun hg168=>(jb (x:=(.tv (kInt .i64) i6)) (ja R))) ?_
     refine AtH.vi [0] hgd 14 R R R (ju R) R R (D':=#[Y,Y,Y,Y,Y,Y,Y,Y,Y,Y,Y,Y,Y,Y,Y,N,N,N,N,N,N,N,N,N,N,N,N]) (by kernel_rfl) (fun _ _ _ _ h=>h) R (fun hg169=>(jk (jh R hg169) (ji _ _) bin_sub)) ?_
     refine AtH.vi [0] hgd 15 R R R (ju R) R R (D':=#[Y,Y,Y,Y,Y,Y,Y,Y,Y,Y,Y,Y,Y,Y,Y,Y,N,N,N,N,N,N,N,N,N,N,N]) (by kernel_rfl) (fun _ _ _ _ h=>h) R (fun hg170=>(vd zObject (jh R hg170) (jh R hg170) Tryz.underlying22 ty_59 (hq14 hg170))) ?_
     refine AtH.vi [0] hgd 16 R R R (ju R) R R (D':=#[Y,Y,Y,Y,Y,Y,Y,Y,Y,Y,Y,Y,Y,Y,Y,Y,Y,N,N,N,N,N,N,N,N,N,N]) (by kernel_rfl) (fun _ _ _ _ h=>h) R (fun hg171=>(Jb (K:=kObject) (jh R hg171) fa_59_0 sub_Object_0)) ?_
     refine AtH.vi [0] hgd 17 R R R (ju R) R R (D':=#[Y,Y,Y,Y,Y,Y,Y,Y,Y,Y,Y,Y,Y,Y,Y,Y,Y,Y,N,N,N,N,N,N,N,N,N]) (by kernel_rfl) (fun _ _ _ _ h=>h) R (fun hg172=>(vo (K:=kStr) (jh R hg172) ty_9)) ?_
     refine AtH.vi [0] hgd 18 R R R (ju R) R R (D':=#[Y,Y,Y,Y,Y,Y,Y,Y,Y,Y,Y,Y,Y,Y,Y,Y,Y,Y,Y,N,N,N,N,N,N,N,N]) (by kernel_rfl) (fun _ _ _ _ h=>h) R (fun hg173=>(je (ja R) fa_24_0)) ?_
     refine AtH.vi [0] hgd 19 R R R (ju R) R R (D':=#[Y,Y,Y,Y,Y,Y,Y,Y,Y,Y,Y,Y,Y,Y,Y,Y,Y,Y,Y,Y,N,N,N,N,N,N,N]) (by kernel_rfl) (fun _ _ _ _ h=>h) R (fun hg174=>(jc (jh R hg174) 0 R sub_Map_0 ty_22)) ?_
     refine AtH.vi [0] hgd 20 R R R (ju R) R R (D':=#[Y,Y,Y,Y,Y,Y,Y,Y,Y,Y,Y,Y,Y,Y,Y,Y,Y,Y,Y,Y,Y,N,N,N,N,N,N]) (by kernel_rfl) (fun _ _ _ _ h=>h) R (fun hg175=>(jb (x:=(.tv (kInt .i64) i6)) (ja R))) ?_
     refine AtH.vi [0] hgd 21 R R R (ju R) R R (D':=#[Y,Y,Y,Y,Y,Y,Y,Y,Y,Y,Y,Y,Y,Y,Y,Y,Y,Y,Y,Y,Y,Y,N,N,N,N,N]) (by kernel_rfl) (fun _ _ _ _ h=>h) R (fun hg176=>(vd zObject (jh R hg176) (jh R hg176) Tryz.underlying22 ty_59 (hq15 hg176))) ?_
     refine AtH.vi [0] hgd 22 R R R (ju R) R R (D':=#[Y,Y,Y,Y,Y,Y,Y,Y,Y,Y,Y,Y,Y,Y,Y,Y,Y,Y,Y,Y,Y,Y,Y,N,N,N,N]) (by kernel_rfl) (fun _ _ _ _ h=>h) R (fun hg177=>(Jb (K:=kObject) (jh R hg177) fa_59_0 sub_Object_0)) ?_
     refine AtH.vi [0] hgd 23 R R R (ju R) R R (D':=#[Y,Y,Y,Y,Y,Y,Y,Y,Y,Y,Y,Y,Y,Y,Y,Y,Y,Y,Y,Y,Y,Y,Y,Y,N,N,N]) (by kernel_rfl) (fun _ _ _ _ h=>h) R (fun hg178=>(vo (K:=kStr) (jh R hg178) ty_9)) ?_
     refine AtH.vi [0] hgd 24 R R R (ju R) R R (D':=#[Y,Y,Y,Y,Y,Y,Y,Y,Y,Y,Y,Y,Y,Y,Y,Y,Y,Y,Y,Y,Y,Y,Y,Y,Y,N,N]) (by kernel_rfl) (fun _ _ _ _ h=>h) R (fun hg179=>(jk (jh R hg179) (jh R hg179) bin_sgeq)) ?_
     refine AtH.vi [0] hgd 25 R R R (jw R) R R (D':=#[Y,Y,Y,Y,Y,Y,Y,Y,Y,Y,Y,Y,Y,Y,Y,Y,Y,Y,Y,Y,Y,Y,Y,Y,Y,Y,N]) (by kernel_rfl) (fun _ _ _ _ h=>h) R (fun hg180=>(jm (jh R hg180) (ja R) (jl _) (pick_andG (and_of hg180)))) ?_
     refine AtH.take [0] hgd 26 R R R R (D':=#[Y,Y,Y,Y,Y,Y,Y,Y,Y,Y,Y,Y,Y,Y,Y,Y,Y,Y,Y,Y,Y,Y,Y,Y,Y,Y,Y]) (by kernel_rfl) (fun _ _ _ _ h=>h) R (jm (ja R) (jl _) (ja R) pick_or) ?_
     refine AtH.done (by kernel_rfl) ?_
     refine At.vf ?_
     refine At.cond (ja R) (fun hb11=>?_) (fun hb11=>?_)
     ·replace hF:=W.ite_t hb11 hF
      refine At.seq (At.region (At.d R R R R (jd (x:=(.tv kBool false)) (jl _)) ?_))
      refine At.done (At.vf (At.ret ?_))
      refine At.q ?_
      refine At.vg (At.vg ?_)
      refine At.q ?_
      refine At.vg ?_
      exact At.j rfl (rv_tmp rfl) [] rfl ⟨false,hF,rfl,rfl⟩
     ·replace hF:=W.ite_f hb11 hF
      refine At.skip ?_
      refine At.n ?_
      refine At.vf (At.region (At.d R R R R (jb (x:=(.tv (kInt .i64) i6)) (ja R)) ?_))
      refine At.d R R R R (jk (ja R) (ji _ _) jz) ?_
      refine At.d R R R R (jd (x:=(.tv (kInt .i64) (w64 (i6+(1:Int))))) (ja R)) ?_
      refine At.done (At.vf ?_)
      refine At.w [0] R [(1,(.eq (.pointer (some ⟨g1,0,none⟩)))),(3,(.tv (kInt .i64) (w64 (i6+(1:Int)))))] ⟨R,R,trivial⟩ (At.r ⟨(w64 (i6+(1:Int))),hF,R,R⟩)
    ·replace hF:=W.ite_f hb10 hF
     refine At.exit ?_
     refine At.x (At.x ?_)
     refine At.h ?_
     refine At.vf ?_
     refine At.w [] R [] trivial (At.r ⟨(),hF,R,R⟩)
  ·rintro _ _ ⟨_,hF,rfl,rfl⟩
   unfold ref13_Valid.c1 at hF
   refine At.seq (At.region (At.d R R R R (jd (x:=(.tv kBool true)) (jl _)) ?_))
   refine At.done (At.vf (At.ret ?_))
   exact At.j rfl (rv_tmp rfl) [] rfl ⟨true,hF,rfl,rfl⟩
def ref13_put__o.c2 (id1:BA) (at4:Int) (x2:(List ref13_Border)):W (List ref13_Border):=W.req (0≤at4∧at4<(x2.length:Int)) (W.req (0≤at4∧at4<(x2.length:Int)) (W.req ((!((((rd vv x2 at4).Owners).length:Int)==(0:Int)))=true→0≤at4∧at4<(x2.length:Int)) (W.req ((!((((rd vv x2 at4).Owners).length:Int)==(0:Int)))=true→0≤at4∧at4<(x2.length:Int)) (W.req ((!((((rd vv x2 at4).Owners).length:Int)==(0:Int)))=true→0≤(w64 ((((rd vv x2 at4).Owners).length:Int)-(1:Int)))∧(w64 ((((rd vv x2 at4).Owners).length:Int)-(1:Int)))<(((rd vv x2 at4).Owners).length:Int)) (W.ite (((((rd vv x2 at4).Owners).length:Int)==(0:Int))||(!(sEq (rd (⟨#[]⟩:BA) ((rd vv x2 at4).Owners) (w64 ((((rd vv x2 at4).Owners).length:Int)-(1:Int)))) id1))) (W.req (0≤at4∧at4<(x2.length:Int)) (W.req (0≤at4∧at4<(x2.length:Int)) (W.req ((([]:List BA).length+((rd vv x2 at4).Owners).length)*16≤140737488355328∧([]:List BA).length+((rd vv x2 at4).Owners).length≤140737488355328) (W.req (((([]:List BA)++((rd vv x2 at4).Owners)).length+([id1]:List BA).length)*16≤140737488355328∧(([]:List BA)++((rd vv x2 at4).Owners)).length+([id1]:List BA).length≤140737488355328) (W.req (0≤at4∧at4<(x2.length:Int)) (W.req (0≤at4∧at4<(x2.length:Int)) (W.ret (x2.set at4.toNat ({ (rd vv x2 at4) with Owners:=((([]:List BA)++((rd vv x2 at4).Owners))++([id1]:List BA)) }:ref13_Border))))))))) (W.ret x2))))))
def ref13_put__o.c3 (l1:(List ref13_Border)) (at4:Int) (K2:(List ref13_Border)→W (List ref13_Border)) (x3:ref13_Border):W (List ref13_Border):=W.req (0≤at4∧at4≤(l1.length:Int)) (W.req (at4.toNat≤l1.length) (W.req ((([]:List ref13_Border).length+((l1.take at4.toNat).drop 0).length)*88≤140737488355328∧([]:List ref13_Border).length+((l1.take at4.toNat).drop 0).length≤140737488355328) (W.req (((([]:List ref13_Border)++((l1.take at4.toNat).drop 0)).length+([x3]:List ref13_Border).length)*88≤140737488355328∧(([]:List ref13_Border)++((l1.take at4.toNat).drop 0)).length+([x3]:List ref13_Border).length≤140737488355328) (W.req (l1.length≤l1.length) (W.req ((((([]:List ref13_Border)++((l1.take at4.toNat).drop 0))++([x3]:List ref13_Border)).length+((l1.take l1.length).drop at4.toNat).length)*88≤140737488355328∧((([]:List ref13_Border)++((l1.take at4.toNat).drop 0))++([x3]:List ref13_Border)).length+((l1.take l1.length).drop at4.toNat).length≤140737488355328) (K2 (((([]:List ref13_Border)++((l1.take at4.toNat).drop 0))++([x3]:List ref13_Border))++((l1.take l1.length).drop at4.toNat))))))))
def ref13_put__o.c1 (l1:(List ref13_Border)) (m1:Map) (s1:(BA×BA)) (id1:BA) (at4:Int):W (List ref13_Border):=W.req ((!(at4==(l1.length:Int)))=true→0≤at4∧at4<(l1.length:Int)) (W.req ((!((at4==(l1.length:Int))||(!(sEq ((rd vv l1 at4).A) s1.1))))=true→0≤at4∧at4<(l1.length:Int)) (W.ite (((at4==(l1.length:Int))||(!(sEq ((rd vv l1 at4).A) s1.1)))||(!(sEq ((rd vv l1 at4).B) s1.2))) (W.bind (ref13_Find.F m1 s1.1) (fun r5=>W.req (0≤r5∧r5<(m1.Objects.length:Int)) (W.bind (ref13_Find.F m1 s1.2) (fun r6=>W.req (0≤r6∧r6<(m1.Objects.length:Int)) ((ref13_put__o.c3 l1 at4 (ref13_put__o.c2 id1 at4)) (⟨s1.1,s1.2,(rd zObject m1.Objects r5).At,(rd zObject m1.Objects r6).At,([]:List BA)⟩:ref13_Border)))))) ((ref13_put__o.c2 id1 at4) l1)))
def ref13_put__o.l1 (l1:(List ref13_Border)) (s1:(BA×BA)) (K1:Int→W (List ref13_Border)) (A1:Int→W (List ref13_Border)) (at7:Int):W (List ref13_Border):=W.req ((decide (at7<(l1.length:Int)))=true→0≤at7∧at7<(l1.length:Int)) (W.req (((decide (at7<(l1.length:Int)))&&!(sLt ((rd vv l1 at7).A) s1.1))=true→0≤at7∧at7<(l1.length:Int)) (W.req ((((decide (at7<(l1.length:Int)))&&!(sLt ((rd vv l1 at7).A) s1.1))&&(sEq ((rd vv l1 at7).A) s1.1))=true→0≤at7∧at7<(l1.length:Int)) (W.ite ((decide (at7<(l1.length:Int)))&&((sLt ((rd vv l1 at7).A) s1.1)||((sEq ((rd vv l1 at7).A) s1.1)&&(sLt ((rd vv l1 at7).B) s1.2)))) (A1 (w64 (at7+(1:Int)))) (K1 at7))))
def ref13_put__o.F (l1:(List ref13_Border)) (m1:Map) (s1:(BA×BA)) (id1:BA):W (List ref13_Border):=W.ex fun n=>W.iter1 (ref13_put__o.l1 l1 s1 (ref13_put__o.c1 l1 m1 s1 id1)) n (0:Int)
theorem ref13_put__o.ok {l1:(List ref13_Border)} {v1:Value} {m1:Map} {s1:(BA×BA)} {id1:BA} {Q:(List ref13_Border)→Prop} (hF:ref13_put__o.F l1 m1 s1 id1 Q):Con Tryz.prog 53 [.eq v1,.tv kMap m1,.tv (kPair kStr kStr) s1,.tv kStr id1] [.row v1 49 kref13_Border l1] (fun ta rs'=>∃ (r:(List ref13_Border)) (u0:Value),Q r∧ta=.eq u0∧rs'=[.row u0 49 kref13_Border r]):=by
 refine Con.i Tryz.func53 Tryz.ntmps53 R R (fun C=>?_)
 unfold ref13_put__o.F at hF
 refine At.seq (At.region (At.f R (eff_box R R R (ja R)) ?_))
 rintro _ _ ⟨g1,rfl,rfl⟩
 refine At.f R (eff_box R R R (ja R)) ?_
 rintro _ _ ⟨g2,rfl,rfl⟩
 refine At.d R R R R (jd (x:=(.eq (.slice none 0 0))) (opd_eq _)) ?_
 refine At.done (At.vf (At.seq (At.region (At.d R R R R (jd (x:=(.tv (kInt .i64) (0:Int))) (ji _ _)) ?_))))
 refine At.done (At.vf ?_)
 refine At.cut (fun rs L=>∃ (at4:Int),ref13_put__o.c1 l1 m1 s1 id1 at4 Q∧rs=[.row v1 49 kref13_Border l1,.box g1 24 kMap m1,.box g2 50 (kPair kStr kStr) s1]∧L=mkL [(0,(.eq v1)),(3,(.tv kStr id1)),(5,(.eq (.pointer (some ⟨g1,0,none⟩)))),(6,(.eq (.pointer (some ⟨g2,0,none⟩)))),(9,(.tv (kInt .i64) at4))]) ?_ ?_
 ·refine At.block ?_
  obtain ⟨n1,hF⟩:=hF
  refine At.w [2,1,0] R [(0,(.eq v1)),(3,(.tv kStr id1)),(5,(.eq (.pointer (some ⟨g1,0,none⟩)))),(6,(.eq (.pointer (some ⟨g2,0,none⟩)))),(9,(.tv (kInt .i64) (0:Int)))] ⟨R,R,R,R,R,trivial⟩ ?_
  refine At.loop (fun m rs L=>∃ (at7:Int),W.iter1 (ref13_put__o.l1 l1 s1 (ref13_put__o.c1 l1 m1 s1 id1)) m at7 Q∧rs=[.row v1 49 kref13_Border l1,.box g1 24 kMap m1,.box g2 50 (kPair kStr kStr) s1]∧L=mkL [(0,(.eq v1)),(3,(.tv kStr id1)),(5,(.eq (.pointer (some ⟨g1,0,none⟩)))),(6,(.eq (.pointer (some ⟨g2,0,none⟩)))),(9,(.tv (kInt .i64) at7))]) ?_ ?_ (m:=n1) ⟨(0:Int),hF,R,R⟩
  ·rintro rs L ⟨_,hF,_,_⟩;exact hF
  ·rintro m2 _ _ ⟨at7,hF,rfl,rfl⟩
   replace hF:=W.iter1_s hF
   unfold ref13_put__o.l1 at hF
   refine At.seq (At.seq ?_)
   refine At.draw mixed [0,1,2] R [[],[],[]] (fun φ w hgd=>?_)
   obtain ⟨hq46,hF⟩:=hF
   obtain ⟨hq47,hF⟩:=hF
   obtain ⟨hq48,hF⟩:=hF
   refine AtH.take [0,1,2] hgd 0 R R R R (D':=#[Y,N,N,N,N,N,N,N,N,N,N,N,N,N,N,N,N,N,N,N,N,N,N,N,N,N,N,N,N,N,N,N,N,N]) (by kernel_rfl) (fun _ _ _ _ h=>h) R (jb (x:=(.tv (kInt .i64) at7)) (ja R)) ?_
   refine AtH.take [0,1,2] hgd 1 R R R R (D':=#[Y,Y,N,N,N,N,N,N,N,N,N,N,N,N,N,N,N,N,N,N,N,N,N,N,N,N,N,N,N,N,N,N,N,N]) (by kernel_rfl) (fun _ _ _ _ h=>h) R (jb (x:=(.eq v1)) (ja R)) ?_
   refine AtH.take [0,1,2] hgd 2 R R R R (D':=#[Y,Y,Y,N,N,N,N,N,N,N,N,N,N,N,N,N,N,N,N,N,N,N,N,N,N,N,N,N,N,N,N,N,N,N]) (by kernel_rfl) (fun _ _ _ _ h=>h) R (does_len_row (ja R) 0 R Tryz.underlying45) ?_
   refine AtH.take [0,1,2] hgd 3 R R R R (D':=#[Y,Y,Y,Y,N,N,N,N,N,N,N,N,N,N,N,N,N,N,N,N,N,N,N,N,N,N,N,N,N,N,N,N,N,N]) (by kernel_rfl) (fun _ _ _ _ h=>h) R (jk (ja R) (ja R) vc) ?_
   refine AtH.take [0,1,2] hgd 4 R R R R (D':=#[Y,Y,Y,Y,Y,N,N,N,N,N,N,N,N,N,N,N,N,N,N,N,N,N,N,N,N,N,N,N,N,N,N,N,N,N]) (by kernel_rfl) (fun _ _ _ _ h=>h) R (jb (x:=(.tv kBool (decide (at7<(l1.length:Int))))) (ja R)) ?_
   refine AtH.vi [0,1,2] hgd 5 R R R (jv R) R R (D':=#[Y,Y,Y,Y,Y,Y,N,N,N,N,N,N,N,N,N,N,N,N,N,N,N,N,N,N,N,N,N,N,N,N,N,N,N,N]) (by kernel_rfl) (fun _ _ _ _ h=>h) R (fun hg328=>(jb (x:=(.eq v1)) (ja R))) ?_
   refine AtH.vi [0,1,2] hgd 6 R R R (jv R) R R (D':=#[Y,Y,Y,Y,Y,Y,Y,N,N,N,N,N,N,N,N,N,N,N,N,N,N,N,N,N,N,N,N,N,N,N,N,N,N,N]) (by kernel_rfl) (fun _ _ _ _ h=>h) R (fun hg329=>(jb (x:=(.tv (kInt .i64) at7)) (ja R))) ?_
   refine AtH.vi [0,1,2] hgd 7 R R R (jv R) R R (D':=#[Y,Y,Y,Y,Y,Y,Y,Y,N,N,N,N,N,N,N,N,N,N,N,N,N,N,N,N,N,N,N,N,N,N,N,N,N,N]) (by kernel_rfl) (fun _ _ _ _ h=>h) R (fun hg330=>(does_idx_row (jh R hg330) 0 R (jh R hg330) Tryz.underlying45 ty_49 (hq46 hg330))) ?_
   refine AtH.vi [0,1,2] hgd 8 R R R (jv R) R R (D':=#[Y,Y,Y,Y,Y,Y,Y,Y,Y,N,N,N,N,N,N,N,N,N,N,N,N,N,N,N,N,N,N,N,N,N,N,N,N,N]) (by kernel_rfl) (fun _ _ _ _ h=>h) R (fun hg331=>(does_field_elem (jh R hg331) fa_49_0)) ?_
   refine AtH.vi [0,1,2] hgd 9 R R R (jv R) R R (D':=#[Y,Y,Y,Y,Y,Y,Y,Y,Y,Y,N,N,N,N,N,N,N,N,N,N,N,N,N,N,N,N,N,N,N,N,N,N,N,N]) (by kernel_rfl) (fun _ _ _ _ h=>h) R (fun hg332=>(Ja (jh R hg332) 0 R at7 0 R vv (hq46 hg332) sub_ref13_Border_0 ty_9)) ?_
   refine AtH.vi [0,1,2] hgd 10 R R R (jv R) R R (D':=#[Y,Y,Y,Y,Y,Y,Y,Y,Y,Y,Y,N,N,N,N,N,N,N,N,N,N,N,N,N,N,N,N,N,N,N,N,N,N,N]) (by kernel_rfl) (fun _ _ _ _ h=>h) R (fun hg333=>(does_aidx_box (ja R) (ji _ _) ia_50_0)) ?_
   refine AtH.vi [0,1,2] hgd 11 R R R (jv R) R R (D':=#[Y,Y,Y,Y,Y,Y,Y,Y,Y,Y,Y,Y,N,N,N,N,N,N,N,N,N,N,N,N,N,N,N,N,N,N,N,N,N,N]) (by kernel_rfl) (fun _ _ _ _ h=>h) R (fun hg334=>(jc (jh R hg334) 2 R sub_a50_0 ty_9)) ?_
   refine AtH.vi [0,1,2] hgd 12 R R R (jv R) R R (D':=#[Y,Y,Y,Y,Y,Y,Y,Y,Y,Y,Y,Y,Y,N,N,N,N,N,N,N,N,N,N,N,N,N,N,N,N,N,N,N,N,N]) (by kernel_rfl) (fun _ _ _ _ h=>h) R (fun hg335=>(jk (jh R hg335) (jh R hg335) bin_slss)) ?_
   refine AtH.vi [0,1,2] hgd 13 R R R (jv R) R R (D':=#[Y,Y,Y,Y,Y,Y,Y,Y,Y,Y,Y,Y,Y,Y,N,N,N,N,N,N,N,N,N,N,N,N,N,N,N,N,N,N,N,N]) (by kernel_rfl) (fun _ _ _ _ h=>h) R (fun hg336=>(jb (x:=(.tv kBool (sLt ((rd vv l1 at7).A) s1.1))) (jh R hg336))) ?_
   refine AtH.vi [0,1,2] hgd 14 R R R (sees_wf R) R R (D':=#[Y,Y,Y,Y,Y,Y,Y,Y,Y,Y,Y,Y,Y,Y,Y,N,N,N,N,N,N,N,N,N,N,N,N,N,N,N,N,N,N,N]) (by kernel_rfl) (fun _ _ _ _ h=>h) R (fun hg337=>(jb (x:=(.eq v1)) (ja R))) ?_
   refine AtH.vi [0,1,2] hgd 15 R R R (sees_wf R) R R (D':=#[Y,Y,Y,Y,Y,Y,Y,Y,Y,Y,Y,Y,Y,Y,Y,Y,N,N,N,N,N,N,N,N,N,N,N,N,N,N,N,N,N,N]) (by kernel_rfl) (fun _ _ _ _ h=>h) R (fun hg338=>(jb (x:=(.tv (kInt .i64) at7)) (ja R))) ?_
   refine AtH.vi [0,1,2] hgd 16 R R R (sees_wf R) R R (D':=#[Y,Y,Y,Y,Y,Y,Y,Y,Y,Y,Y,Y,Y,Y,Y,Y,Y,N,N,N,N,N,N,N,N,N,N,N,N,N,N,N,N,N]) (by kernel_rfl) (fun _ _ _ _ h=>h) R (fun hg339=>(does_idx_row (jh R hg339) 0 R (jh R hg339) Tryz.underlying45 ty_49 (hq47 hg339))) ?_
   refine AtH.vi [0,1,2] hgd 17 R R R (sees_wf R) R R (D':=#[Y,Y,Y,Y,Y,Y,Y,Y,Y,Y,Y,Y,Y,Y,Y,Y,Y,Y,N,N,N,N,N,N,N,N,N,N,N,N,N,N,N,N]) (by kernel_rfl) (fun _ _ _ _ h=>h) R (fun hg340=>(does_field_elem (jh R hg340) fa_49_0)) ?_
   refine AtH.vi [0,1,2] hgd 18 R R R (sees_wf R) R R (D':=#[Y,Y,Y,Y,Y,Y,Y,Y,Y,Y,Y,Y,Y,Y,Y,Y,Y,Y,Y,N,N,N,N,N,N,N,N,N,N,N,N,N,N,N]) (by kernel_rfl) (fun _ _ _ _ h=>h) R (fun hg341=>(Ja (jh R hg341) 0 R at7 0 R vv (hq47 hg341) sub_ref13_Border_0 ty_9)) ?_
   refine AtH.vi [0,1,2] hgd 19 R R R (sees_wf R) R R (D':=#[Y,Y,Y,Y,Y,Y,Y,Y,Y,Y,Y,Y,Y,Y,Y,Y,Y,Y,Y,Y,N,N,N,N,N,N,N,N,N,N,N,N,N,N]) (by kernel_rfl) (fun _ _ _ _ h=>h) R (fun hg342=>(does_aidx_box (ja R) (ji _ _) ia_50_0)) ?_
   refine AtH.vi [0,1,2] hgd 20 R R R (sees_wf R) R R (D':=#[Y,Y,Y,Y,Y,Y,Y,Y,Y,Y,Y,Y,Y,Y,Y,Y,Y,Y,Y,Y,Y,N,N,N,N,N,N,N,N,N,N,N,N,N]) (by kernel_rfl) (fun _ _ _ _ h=>h) R (fun hg343=>(jc (jh R hg343) 2 R sub_a50_0 ty_9)) ?_
   refine AtH.vi [0,1,2] hgd 21 R R R (sees_wf R) R R (D':=#[Y,Y,Y,Y,Y,Y,Y,Y,Y,Y,Y,Y,Y,Y,Y,Y,Y,Y,Y,Y,Y,Y,N,N,N,N,N,N,N,N,N,N,N,N]) (by kernel_rfl) (fun _ _ _ _ h=>h) R (fun hg344=>(jk (jh R hg344) (jh R hg344) bin_seql)) ?_
   refine AtH.vi [0,1,2] hgd 22 R R R (sees_wf R) R R (D':=#[Y,Y,Y,Y,Y,Y,Y,Y,Y,Y,Y,Y,Y,Y,Y,Y,Y,Y,Y,Y,Y,Y,Y,N,N,N,N,N,N,N,N,N,N,N]) (by kernel_rfl) (fun _ _ _ _ h=>h) R (fun hg345=>(jb (x:=(.tv kBool (sEq ((rd vv l1 at7).A) s1.1))) (jh R hg345))) ?_
   refine AtH.vi [0,1,2] hgd 23 R R R (ju R) R R (D':=#[Y,Y,Y,Y,Y,Y,Y,Y,Y,Y,Y,Y,Y,Y,Y,Y,Y,Y,Y,Y,Y,Y,Y,Y,N,N,N,N,N,N,N,N,N,N]) (by kernel_rfl) (fun _ _ _ _ h=>h) R (fun hg346=>(jb (x:=(.eq v1)) (ja R))) ?_
   refine AtH.vi [0,1,2] hgd 24 R R R (ju R) R R (D':=#[Y,Y,Y,Y,Y,Y,Y,Y,Y,Y,Y,Y,Y,Y,Y,Y,Y,Y,Y,Y,Y,Y,Y,Y,Y,N,N,N,N,N,N,N,N,N]) (by kernel_rfl) (fun _ _ _ _ h=>h) R (fun hg347=>(jb (x:=(.tv (kInt .i64) at7)) (ja R))) ?_
   refine AtH.vi [0,1,2] hgd 25 R R R (ju R) R R (D':=#[Y,Y,Y,Y,Y,Y,Y,Y,Y,Y,Y,Y,Y,Y,Y,Y,Y,Y,Y,Y,Y,Y,Y,Y,Y,Y,N,N,N,N,N,N,N,N]) (by kernel_rfl) (fun _ _ _ _ h=>h) R (fun hg348=>(does_idx_row (jh R hg348) 0 R (jh R hg348) Tryz.underlying45 ty_49 (hq48 hg348))) ?_
   refine AtH.vi [0,1,2] hgd 26 R R R (ju R) R R (D':=#[Y,Y,Y,Y,Y,Y,Y,Y,Y,Y,Y,Y,Y,Y,Y,Y,Y,Y,Y,Y,Y,Y,Y,Y,Y,Y,Y,N,N,N,N,N,N,N]) (by kernel_rfl) (fun _ _ _ _ h=>h) R (fun hg349=>(does_field_elem (jh R hg349) fa_49_1)) ?_
   refine AtH.vi [0,1,2] hgd 27 R R R (ju R) R R (D':=#[Y,Y,Y,Y,Y,Y,Y,Y,Y,Y,Y,Y,Y,Y,Y,Y,Y,Y,Y,Y,Y,Y,Y,Y,Y,Y,Y,Y,N,N,N,N,N,N]) (by kernel_rfl) (fun _ _ _ _ h=>h) R (fun hg350=>(Ja (jh R hg350) 0 R at7 1 R vv (hq48 hg350) sub_ref13_Border_1 ty_9)) ?_
   refine AtH.vi [0,1,2] hgd 28 R R R (ju R) R R (D':=#[Y,Y,Y,Y,Y,Y,Y,Y,Y,Y,Y,Y,Y,Y,Y,Y,Y,Y,Y,Y,Y,Y,Y,Y,Y,Y,Y,Y,Y,N,N,N,N,N]) (by kernel_rfl) (fun _ _ _ _ h=>h) R (fun hg351=>(does_aidx_box (ja R) (ji _ _) ia_50_1)) ?_
   refine AtH.vi [0,1,2] hgd 29 R R R (ju R) R R (D':=#[Y,Y,Y,Y,Y,Y,Y,Y,Y,Y,Y,Y,Y,Y,Y,Y,Y,Y,Y,Y,Y,Y,Y,Y,Y,Y,Y,Y,Y,Y,N,N,N,N]) (by kernel_rfl) (fun _ _ _ _ h=>h) R (fun hg352=>(jc (jh R hg352) 2 R sub_a50_1 ty_9)) ?_
   refine AtH.vi [0,1,2] hgd 30 R R R (ju R) R R (D':=#[Y,Y,Y,Y,Y,Y,Y,Y,Y,Y,Y,Y,Y,Y,Y,Y,Y,Y,Y,Y,Y,Y,Y,Y,Y,Y,Y,Y,Y,Y,Y,N,N,N]) (by kernel_rfl) (fun _ _ _ _ h=>h) R (fun hg353=>(jk (jh R hg353) (jh R hg353) bin_slss)) ?_
   refine AtH.vi [0,1,2] hgd 31 R R R (sees_wf R) R R (D':=#[Y,Y,Y,Y,Y,Y,Y,Y,Y,Y,Y,Y,Y,Y,Y,Y,Y,Y,Y,Y,Y,Y,Y,Y,Y,Y,Y,Y,Y,Y,Y,Y,N,N]) (by kernel_rfl) (fun _ _ _ _ h=>h) R (fun hg354=>(jm (jh R hg354) (ja R) (jl _) (pick_andG (and_of hg354)))) ?_
   refine AtH.vi [0,1,2] hgd 32 R R R (jv R) R R (D':=#[Y,Y,Y,Y,Y,Y,Y,Y,Y,Y,Y,Y,Y,Y,Y,Y,Y,Y,Y,Y,Y,Y,Y,Y,Y,Y,Y,Y,Y,Y,Y,Y,Y,N]) (by kernel_rfl) (fun _ _ _ _ h=>h) R (fun hg355=>(jm (jh R hg355) (jl _) (ja R) (pick_orG (andn_of hg355)))) ?_
   refine AtH.take [0,1,2] hgd 33 R R R R (D':=#[Y,Y,Y,Y,Y,Y,Y,Y,Y,Y,Y,Y,Y,Y,Y,Y,Y,Y,Y,Y,Y,Y,Y,Y,Y,Y,Y,Y,Y,Y,Y,Y,Y,Y]) (by kernel_rfl) (fun _ _ _ _ h=>h) R (jm (ja R) (ja R) (jl _) pick_and) ?_
   refine AtH.done (by kernel_rfl) ?_
   refine At.vf ?_
   refine At.cond (ja R) (fun hb8=>?_) (fun hb8=>?_)
   ·replace hF:=W.ite_t hb8 hF
    refine At.skip (At.vf (At.block (At.region (At.d R R R R (jb (x:=(.tv (kInt .i64) at7)) (ja R)) ?_))))
    refine At.d R R R R (jk (ja R) (ji _ _) jz) ?_
    refine At.d R R R R (jd (x:=(.tv (kInt .i64) (w64 (at7+(1:Int))))) (ja R)) ?_
    refine At.done ?_
    refine At.n ?_
    refine At.vf ?_
    refine At.w [0,1,2] R [(0,(.eq v1)),(3,(.tv kStr id1)),(5,(.eq (.pointer (some ⟨g1,0,none⟩)))),(6,(.eq (.pointer (some ⟨g2,0,none⟩)))),(9,(.tv (kInt .i64) (w64 (at7+(1:Int)))))] ⟨R,R,R,R,R,trivial⟩ (At.r ⟨(w64 (at7+(1:Int))),hF,R,R⟩)
   ·replace hF:=W.ite_f hb8 hF
    refine At.exit ?_
    refine At.x (At.x ?_)
    refine At.h ?_
    refine At.vf ?_
    refine At.w [0,1,2] R [(0,(.eq v1)),(3,(.tv kStr id1)),(5,(.eq (.pointer (some ⟨g1,0,none⟩)))),(6,(.eq (.pointer (some ⟨g2,0,none⟩)))),(9,(.tv (kInt .i64) at7))] ⟨R,R,R,R,R,trivial⟩ (At.r ⟨at7,hF,R,R⟩)
 ·rintro _ _ ⟨at4,hF,rfl,rfl⟩
  unfold ref13_put__o.c1 at hF
  refine At.cut (fun rs L=>∃ (x2:(List ref13_Border)) (v21:Value),ref13_put__o.c2 id1 at4 x2 Q∧rs=[.row v21 49 kref13_Border x2]∧L=mkL [(0,(.eq v21)),(3,(.tv kStr id1)),(9,(.tv (kInt .i64) at4))]) ?_ ?_
  ·refine At.seq ?_
   refine At.draw mixed [0,1,2] R [[],[],[]] (fun φ w hgd=>?_)
   obtain ⟨hq28,hF⟩:=hF
   obtain ⟨hq29,hF⟩:=hF
   refine AtH.take [0,1,2] hgd 0 R R R R (D':=#[Y,N,N,N,N,N,N,N,N,N,N,N,N,N,N,N,N,N,N,N,N,N,N,N]) (by kernel_rfl) (fun _ _ _ _ h=>h) R (jb (x:=(.tv (kInt .i64) at4)) (ja R)) ?_
   refine AtH.take [0,1,2] hgd 1 R R R R (D':=#[Y,Y,N,N,N,N,N,N,N,N,N,N,N,N,N,N,N,N,N,N,N,N,N,N]) (by kernel_rfl) (fun _ _ _ _ h=>h) R (jb (x:=(.eq v1)) (ja R)) ?_
   refine AtH.take [0,1,2] hgd 2 R R R R (D':=#[Y,Y,Y,N,N,N,N,N,N,N,N,N,N,N,N,N,N,N,N,N,N,N,N,N]) (by kernel_rfl) (fun _ _ _ _ h=>h) R (does_len_row (ja R) 0 R Tryz.underlying45) ?_
   refine AtH.take [0,1,2] hgd 3 R R R R (D':=#[Y,Y,Y,Y,N,N,N,N,N,N,N,N,N,N,N,N,N,N,N,N,N,N,N,N]) (by kernel_rfl) (fun _ _ _ _ h=>h) R (jk (ja R) (ja R) bin_eql) ?_
   refine AtH.take [0,1,2] hgd 4 R R R R (D':=#[Y,Y,Y,Y,Y,N,N,N,N,N,N,N,N,N,N,N,N,N,N,N,N,N,N,N]) (by kernel_rfl) (fun _ _ _ _ h=>h) R (jb (x:=(.tv kBool (at4==(l1.length:Int)))) (ja R)) ?_
   refine AtH.vi [0,1,2] hgd 5 R R R (jw R) R R (D':=#[Y,Y,Y,Y,Y,Y,N,N,N,N,N,N,N,N,N,N,N,N,N,N,N,N,N,N]) (by kernel_rfl) (fun _ _ _ _ h=>h) R (fun hg172=>(jb (x:=(.eq v1)) (ja R))) ?_
   refine AtH.vi [0,1,2] hgd 6 R R R (jw R) R R (D':=#[Y,Y,Y,Y,Y,Y,Y,N,N,N,N,N,N,N,N,N,N,N,N,N,N,N,N,N]) (by kernel_rfl) (fun _ _ _ _ h=>h) R (fun hg173=>(jb (x:=(.tv (kInt .i64) at4)) (ja R))) ?_
   refine AtH.vi [0,1,2] hgd 7 R R R (jw R) R R (D':=#[Y,Y,Y,Y,Y,Y,Y,Y,N,N,N,N,N,N,N,N,N,N,N,N,N,N,N,N]) (by kernel_rfl) (fun _ _ _ _ h=>h) R (fun hg174=>(does_idx_row (jh R hg174) 0 R (jh R hg174) Tryz.underlying45 ty_49 (hq28 hg174))) ?_
   refine AtH.vi [0,1,2] hgd 8 R R R (jw R) R R (D':=#[Y,Y,Y,Y,Y,Y,Y,Y,Y,N,N,N,N,N,N,N,N,N,N,N,N,N,N,N]) (by kernel_rfl) (fun _ _ _ _ h=>h) R (fun hg175=>(does_field_elem (jh R hg175) fa_49_0)) ?_
   refine AtH.vi [0,1,2] hgd 9 R R R (jw R) R R (D':=#[Y,Y,Y,Y,Y,Y,Y,Y,Y,Y,N,N,N,N,N,N,N,N,N,N,N,N,N,N]) (by kernel_rfl) (fun _ _ _ _ h=>h) R (fun hg176=>(Ja (jh R hg176) 0 R at4 0 R vv (hq28 hg176) sub_ref13_Border_0 ty_9)) ?_
   refine AtH.vi [0,1,2] hgd 10 R R R (jw R) R R (D':=#[Y,Y,Y,Y,Y,Y,Y,Y,Y,Y,Y,N,N,N,N,N,N,N,N,N,N,N,N,N]) (by kernel_rfl) (fun _ _ _ _ h=>h) R (fun hg177=>(does_aidx_box (ja R) (ji _ _) ia_50_0)) ?_
   refine AtH.vi [0,1,2] hgd 11 R R R (jw R) R R (D':=#[Y,Y,Y,Y,Y,Y,Y,Y,Y,Y,Y,Y,N,N,N,N,N,N,N,N,N,N,N,N]) (by kernel_rfl) (fun _ _ _ _ h=>h) R (fun hg178=>(jc (jh R hg178) 2 R sub_a50_0 ty_9)) ?_
   refine AtH.vi [0,1,2] hgd 12 R R R (jw R) R R (D':=#[Y,Y,Y,Y,Y,Y,Y,Y,Y,Y,Y,Y,Y,N,N,N,N,N,N,N,N,N,N,N]) (by kernel_rfl) (fun _ _ _ _ h=>h) R (fun hg179=>(jk (jh R hg179) (jh R hg179) bin_sneq)) ?_
   refine AtH.take [0,1,2] hgd 13 R R R R (D':=#[Y,Y,Y,Y,Y,Y,Y,Y,Y,Y,Y,Y,Y,Y,N,N,N,N,N,N,N,N,N,N]) (by kernel_rfl) (fun _ _ _ _ h=>h) R (jm (ja R) (jl _) (ja R) pick_or) ?_
   refine AtH.take [0,1,2] hgd 14 R R R R (D':=#[Y,Y,Y,Y,Y,Y,Y,Y,Y,Y,Y,Y,Y,Y,Y,N,N,N,N,N,N,N,N,N]) (by kernel_rfl) (fun _ _ _ _ h=>h) R (jb (x:=(.tv kBool ((at4==(l1.length:Int))||(!(sEq ((rd vv l1 at4).A) s1.1))))) (ja R)) ?_
   refine AtH.vi [0,1,2] hgd 15 R R R (jw R) R R (D':=#[Y,Y,Y,Y,Y,Y,Y,Y,Y,Y,Y,Y,Y,Y,Y,Y,N,N,N,N,N,N,N,N]) (by kernel_rfl) (fun _ _ _ _ h=>h) R (fun hg180=>(jb (x:=(.eq v1)) (ja R))) ?_
   refine AtH.vi [0,1,2] hgd 16 R R R (jw R) R R (D':=#[Y,Y,Y,Y,Y,Y,Y,Y,Y,Y,Y,Y,Y,Y,Y,Y,Y,N,N,N,N,N,N,N]) (by kernel_rfl) (fun _ _ _ _ h=>h) R (fun hg181=>(jb (x:=(.tv (kInt .i64) at4)) (ja R))) ?_
   refine AtH.vi [0,1,2] hgd 17 R R R (jw R) R R (D':=#[Y,Y,Y,Y,Y,Y,Y,Y,Y,Y,Y,Y,Y,Y,Y,Y,Y,Y,N,N,N,N,N,N]) (by kernel_rfl) (fun _ _ _ _ h=>h) R (fun hg182=>(does_idx_row (jh R hg182) 0 R (jh R hg182) Tryz.underlying45 ty_49 (hq29 hg182))) ?_
   refine AtH.vi [0,1,2] hgd 18 R R R (jw R) R R (D':=#[Y,Y,Y,Y,Y,Y,Y,Y,Y,Y,Y,Y,Y,Y,Y,Y,Y,Y,Y,N,N,N,N,N]) (by kernel_rfl) (fun _ _ _ _ h=>h) R (fun hg183=>(does_field_elem (jh R hg183) fa_49_1)) ?_
   refine AtH.vi [0,1,2] hgd 19 R R R (jw R) R R (D':=#[Y,Y,Y,Y,Y,Y,Y,Y,Y,Y,Y,Y,Y,Y,Y,Y,Y,Y,Y,Y,N,N,N,N]) (by kernel_rfl) (fun _ _ _ _ h=>h) R (fun hg184=>(Ja (jh R hg184) 0 R at4 1 R vv (hq29 hg184) sub_ref13_Border_1 ty_9)) ?_
   refine AtH.vi [0,1,2] hgd 20 R R R (jw R) R R (D':=#[Y,Y,Y,Y,Y,Y,Y,Y,Y,Y,Y,Y,Y,Y,Y,Y,Y,Y,Y,Y,Y,N,N,N]) (by kernel_rfl) (fun _ _ _ _ h=>h) R (fun hg185=>(does_aidx_box (ja R) (ji _ _) ia_50_1)) ?_
   refine AtH.vi [0,1,2] hgd 21 R R R (jw R) R R (D':=#[Y,Y,Y,Y,Y,Y,Y,Y,Y,Y,Y,Y,Y,Y,Y,Y,Y,Y,Y,Y,Y,Y,N,N]) (by kernel_rfl) (fun _ _ _ _ h=>h) R (fun hg186=>(jc (jh R hg186) 2 R sub_a50_1 ty_9)) ?_
   refine AtH.vi [0,1,2] hgd 22 R R R (jw R) R R (D':=#[Y,Y,Y,Y,Y,Y,Y,Y,Y,Y,Y,Y,Y,Y,Y,Y,Y,Y,Y,Y,Y,Y,Y,N]) (by kernel_rfl) (fun _ _ _ _ h=>h) R (fun hg187=>(jk (jh R hg187) (jh R hg187) bin_sneq)) ?_
   refine AtH.take [0,1,2] hgd 23 R R R R (D':=#[Y,Y,Y,Y,Y,Y,Y,Y,Y,Y,Y,Y,Y,Y,Y,Y,Y,Y,Y,Y,Y,Y,Y,Y]) (by kernel_rfl) (fun _ _ _ _ h=>h) R (jm (ja R) (jl _) (ja R) pick_or) ?_
   refine AtH.done (by kernel_rfl) ?_
   refine At.vf ?_
   refine At.cond (ja R) (fun hb5=>?_) (fun hb5=>?_)
   ·replace hF:=W.ite_t hb5 hF
    refine At.cut (fun rs L=>∃ (x3:ref13_Border) (g12:Nat),ref13_put__o.c3 l1 at4 (ref13_put__o.c2 id1 at4) x3 Q∧rs=[.row v1 49 kref13_Border l1,.box g12 49 kref13_Border x3]∧L=mkL [(0,(.eq v1)),(3,(.tv kStr id1)),(9,(.tv (kInt .i64) at4)),(10,(.eq (.pointer (some ⟨g12,0,none⟩))))]) ?_ ?_
    ·refine At.draw mixed [0,1,2] R [[],[],[]] (fun φ w hgd=>?_)
     replace hF:=W.vk hF
     refine AtH.take [0,1,2] hgd 0 R R R R (D':=#[Y,N,N,N,N,N,N,N,N,N,N,N,N,N,N,N,N,N,N,N,N,N,N,N,N]) (by kernel_rfl) (fun _ _ _ _ h=>h) R (does_aidx_box (ja R) (ji _ _) ia_50_0) ?_
     refine AtH.take [0,1,2] hgd 1 R R R R (D':=#[Y,Y,N,N,N,N,N,N,N,N,N,N,N,N,N,N,N,N,N,N,N,N,N,N,N]) (by kernel_rfl) (fun _ _ _ _ h=>h) R (jc (ja R) 2 R sub_a50_0 ty_9) ?_
     refine AtH.take [0,1,2] hgd 2 R R R R (D':=#[Y,Y,Y,N,N,N,N,N,N,N,N,N,N,N,N,N,N,N,N,N,N,N,N,N,N]) (by kernel_rfl) (fun _ _ _ _ h=>h) R (does_aidx_box (ja R) (ji _ _) ia_50_1) ?_
     refine AtH.take [0,1,2] hgd 3 R R R R (D':=#[Y,Y,Y,Y,N,N,N,N,N,N,N,N,N,N,N,N,N,N,N,N,N,N,N,N,N]) (by kernel_rfl) (fun _ _ _ _ h=>h) R (jc (ja R) 2 R sub_a50_1 ty_9) ?_
     refine AtH.take [0,1,2] hgd 4 R R R R (D':=#[Y,Y,Y,Y,Y,N,N,N,N,N,N,N,N,N,N,N,N,N,N,N,N,N,N,N,N]) (by kernel_rfl) (fun _ _ _ _ h=>h) R (je (ja R) fa_24_0) ?_
     refine AtH.take [0,1,2] hgd 5 R R R R (D':=#[Y,Y,Y,Y,Y,Y,N,N,N,N,N,N,N,N,N,N,N,N,N,N,N,N,N,N,N]) (by kernel_rfl) (fun _ _ _ _ h=>h) R (jc (ja R) 1 R sub_Map_0 ty_22) ?_
     refine AtH.take [0,1,2] hgd 6 R R R R (D':=#[Y,Y,Y,Y,Y,Y,Y,N,N,N,N,N,N,N,N,N,N,N,N,N,N,N,N,N,N]) (by kernel_rfl) (fun _ _ _ _ h=>h) R (jc (ja R) 1 R (Sub.self kMap) ty_24) ?_
     refine AtH.take [0,1,2] hgd 7 R R R R (D':=#[Y,Y,Y,Y,Y,Y,Y,Y,N,N,N,N,N,N,N,N,N,N,N,N,N,N,N,N,N]) (by kernel_rfl) (fun _ _ _ _ h=>h) R (does_aidx_box (ja R) (ji _ _) ia_50_0) ?_
     refine AtH.take [0,1,2] hgd 8 R R R R (D':=#[Y,Y,Y,Y,Y,Y,Y,Y,Y,N,N,N,N,N,N,N,N,N,N,N,N,N,N,N,N]) (by kernel_rfl) (fun _ _ _ _ h=>h) R (jc (ja R) 2 R sub_a50_0 ty_9) ?_
     refine AtH.take [0,1,2] hgd 13 R R R R (D':=#[Y,Y,Y,Y,Y,Y,Y,Y,Y,N,N,N,N,Y,N,N,N,N,N,N,N,N,N,N,N]) (by kernel_rfl) (fun _ _ _ _ h=>h) R (je (ja R) fa_24_0) ?_
     refine AtH.take [0,1,2] hgd 14 R R R R (D':=#[Y,Y,Y,Y,Y,Y,Y,Y,Y,N,N,N,N,Y,Y,N,N,N,N,N,N,N,N,N,N]) (by kernel_rfl) (fun _ _ _ _ h=>h) R (jc (ja R) 1 R sub_Map_0 ty_22) ?_
     refine AtH.take [0,1,2] hgd 15 R R R R (D':=#[Y,Y,Y,Y,Y,Y,Y,Y,Y,N,N,N,N,Y,Y,Y,N,N,N,N,N,N,N,N,N]) (by kernel_rfl) (fun _ _ _ _ h=>h) R (jc (ja R) 1 R (Sub.self kMap) ty_24) ?_
     refine AtH.take [0,1,2] hgd 16 R R R R (D':=#[Y,Y,Y,Y,Y,Y,Y,Y,Y,N,N,N,N,Y,Y,Y,Y,N,N,N,N,N,N,N,N]) (by kernel_rfl) (fun _ _ _ _ h=>h) R (does_aidx_box (ja R) (ji _ _) ia_50_1) ?_
     refine AtH.take [0,1,2] hgd 17 R R R R (D':=#[Y,Y,Y,Y,Y,Y,Y,Y,Y,N,N,N,N,Y,Y,Y,Y,Y,N,N,N,N,N,N,N]) (by kernel_rfl) (fun _ _ _ _ h=>h) R (jc (ja R) 2 R sub_a50_1 ty_9) ?_
     refine AtH.all2 9 23 (by kernel_rfl) ?_ ?_
     ·refine AtH.f [(0,0),(1,1),(2,2)] R R R R R R (jn R R jp (jq R en_87 (jf (ja R) (jf (ja R) jg))) (ref13_Find.ok hF) (by rintro _ _ ⟨r,_,rfl,_⟩;exact flat_int)) (D':=#[Y,Y,Y,Y,Y,Y,Y,Y,Y,Y,N,N,N,Y,Y,Y,Y,Y,N,N,N,N,N,N,N]) (by kernel_rfl) (by kernel_rfl) ?_
      rintro _ _ ⟨_,_,⟨r5,hF,rfl,rfl⟩,rfl,rfl⟩
      refine ⟨_,.inr ⟨R,flat_int⟩,?_⟩
      obtain ⟨hq38,hF⟩:=hF
      replace hF:=W.vk hF
      refine AtH.take [0,1,2] hgd 10 R R R R (D':=#[Y,Y,Y,Y,Y,Y,Y,Y,Y,Y,Y,N,N,Y,Y,Y,Y,Y,N,N,N,N,N,N,N]) (by kernel_rfl) (fun _ _ _ _ h=>h) R (vd zObject (ja R) (ja R) Tryz.underlying22 ty_59 hq38) ?_
      refine AtH.take [0,1,2] hgd 11 R R R R (D':=#[Y,Y,Y,Y,Y,Y,Y,Y,Y,Y,Y,Y,N,Y,Y,Y,Y,Y,N,N,N,N,N,N,N]) (by kernel_rfl) (fun _ _ _ _ h=>h) R (Jb (K:=kObject) (ja R) fa_59_2 sub_Object_2) ?_
      refine AtH.take [0,1,2] hgd 12 R R R R (D':=#[Y,Y,Y,Y,Y,Y,Y,Y,Y,Y,Y,Y,Y,Y,Y,Y,Y,Y,N,N,N,N,N,N,N]) (by kernel_rfl) (fun _ _ _ _ h=>h) R (vo (K:=kPoint) (ja R) ty_37) ?_
      refine AtH.all2 18 23 (by kernel_rfl) ?_ ?_
      ·refine AtH.f [(0,0),(1,1),(2,2)] R R R R R R (jn R R jp (jq R en_87 (jf (ja R) (jf (ja R) jg))) (ref13_Find.ok hF) (by rintro _ _ ⟨r,_,rfl,_⟩;exact flat_int)) (D':=#[Y,Y,Y,Y,Y,Y,Y,Y,Y,Y,Y,Y,Y,Y,Y,Y,Y,Y,Y,N,N,N,N,N,N]) (by kernel_rfl) (by kernel_rfl) ?_
       rintro _ _ ⟨_,_,⟨r6,hF,rfl,rfl⟩,rfl,rfl⟩
       refine ⟨_,.inr ⟨R,flat_int⟩,?_⟩
       obtain ⟨hq39,hF⟩:=hF
       refine AtH.take [0,1,2] hgd 19 R R R R (D':=#[Y,Y,Y,Y,Y,Y,Y,Y,Y,Y,Y,Y,Y,Y,Y,Y,Y,Y,Y,Y,N,N,N,N,N]) (by kernel_rfl) (fun _ _ _ _ h=>h) R (vd zObject (ja R) (ja R) Tryz.underlying22 ty_59 hq39) ?_
       refine AtH.take [0,1,2] hgd 20 R R R R (D':=#[Y,Y,Y,Y,Y,Y,Y,Y,Y,Y,Y,Y,Y,Y,Y,Y,Y,Y,Y,Y,Y,N,N,N,N]) (by kernel_rfl) (fun _ _ _ _ h=>h) R (Jb (K:=kObject) (ja R) fa_59_2 sub_Object_2) ?_
       refine AtH.take [0,1,2] hgd 21 R R R R (D':=#[Y,Y,Y,Y,Y,Y,Y,Y,Y,Y,Y,Y,Y,Y,Y,Y,Y,Y,Y,Y,Y,Y,N,N,N]) (by kernel_rfl) (fun _ _ _ _ h=>h) R (vo (K:=kPoint) (ja R) ty_37) ?_
       refine AtH.take [0,1,2] hgd 22 R R R R (D':=#[Y,Y,Y,Y,Y,Y,Y,Y,Y,Y,Y,Y,Y,Y,Y,Y,Y,Y,Y,Y,Y,Y,Y,N,N]) (by kernel_rfl) (fun _ _ _ _ h=>h) R (jy (jr (ja R) (jr (ja R) (jr (ja R) (jr (ja R) js)))) zr_49 bd_49 R (fills_cons R sub_ref13_Border_0 (fills_cons R sub_ref13_Border_1 (fills_cons R sub_ref13_Border_2 (fills_cons R sub_ref13_Border_3 fills_nil))))) ?_
       refine AtH.all1 23 (by kernel_rfl) ?_
       refine AtH.f [(0,0),(1,1),(2,2)] R R R R R R (eff_alloc R R R tz_49) (D':=#[Y,Y,Y,Y,Y,Y,Y,Y,Y,Y,Y,Y,Y,Y,Y,Y,Y,Y,Y,Y,Y,Y,Y,Y,N]) (by kernel_rfl) (by kernel_rfl) ?_
       rintro _ _ ⟨g14,rfl,rfl⟩
       refine ⟨_,.inr ⟨R,flat_eq⟩,?_⟩
       refine AtH.all1 24 (by kernel_rfl) ?_
       refine AtH.eff0 [(0,1),(1,2),(2,3)] R R R R R (jx R R (ja R) 0 R (Sub.self kref13_Border) ty_49 (ja R)) (D':=#[Y,Y,Y,Y,Y,Y,Y,Y,Y,Y,Y,Y,Y,Y,Y,Y,Y,Y,Y,Y,Y,Y,Y,Y,Y]) (by kernel_rfl) (by kernel_rfl) ?_
       rintro _ _ ⟨rfl,rfl⟩
       refine AtH.done (by kernel_rfl) ?_
       refine At.vf ?_
       refine At.w [1,0] R [(0,(.eq v1)),(3,(.tv kStr id1)),(9,(.tv (kInt .i64) at4)),(10,(.eq (.pointer (some ⟨g14,0,none⟩))))] ⟨R,R,R,R,trivial⟩ (At.r ⟨(⟨s1.1,s1.2,(rd zObject m1.Objects r5).At,(rd zObject m1.Objects r6).At,([]:List BA)⟩:ref13_Border),g14,hF,R,R⟩)
      ·refine AtH.f [(0,0),(1,1),(2,2)] R R R R R R (eff_alloc R R R tz_49) (D':=#[Y,Y,Y,Y,Y,Y,Y,Y,Y,Y,Y,Y,Y,Y,Y,Y,Y,Y,N,N,N,N,N,Y,N]) (by kernel_rfl) (by kernel_rfl) ?_
       rintro _ _ ⟨g15,rfl,rfl⟩
       refine ⟨_,.inr ⟨R,flat_eq⟩,?_⟩
       refine AtH.all1 18 (by kernel_rfl) ?_
       refine AtH.f [(0,1),(1,2),(2,3)] R R R R R R (jn R R jp (jq R en_87 (jf (ja R) (jf (ja R) jg))) (ref13_Find.ok hF) (by rintro _ _ ⟨r,_,rfl,_⟩;exact flat_int)) (D':=#[Y,Y,Y,Y,Y,Y,Y,Y,Y,Y,Y,Y,Y,Y,Y,Y,Y,Y,Y,N,N,N,N,Y,N]) (by kernel_rfl) (by kernel_rfl) ?_
       rintro _ _ ⟨_,_,⟨r6,hF,rfl,rfl⟩,rfl,rfl⟩
       refine ⟨_,.inr ⟨R,flat_int⟩,?_⟩
       obtain ⟨hq39,hF⟩:=hF
       refine AtH.take [0,1,2] hgd 19 R R R R (D':=#[Y,Y,Y,Y,Y,Y,Y,Y,Y,Y,Y,Y,Y,Y,Y,Y,Y,Y,Y,Y,N,N,N,Y,N]) (by kernel_rfl) (fun _ _ _ _ h=>h) R (vd zObject (ja R) (ja R) Tryz.underlying22 ty_59 hq39) ?_
       refine AtH.take [0,1,2] hgd 20 R R R R (D':=#[Y,Y,Y,Y,Y,Y,Y,Y,Y,Y,Y,Y,Y,Y,Y,Y,Y,Y,Y,Y,Y,N,N,Y,N]) (by kernel_rfl) (fun _ _ _ _ h=>h) R (Jb (K:=kObject) (ja R) fa_59_2 sub_Object_2) ?_
       refine AtH.take [0,1,2] hgd 21 R R R R (D':=#[Y,Y,Y,Y,Y,Y,Y,Y,Y,Y,Y,Y,Y,Y,Y,Y,Y,Y,Y,Y,Y,Y,N,Y,N]) (by kernel_rfl) (fun _ _ _ _ h=>h) R (vo (K:=kPoint) (ja R) ty_37) ?_
       refine AtH.take [0,1,2] hgd 22 R R R R (D':=#[Y,Y,Y,Y,Y,Y,Y,Y,Y,Y,Y,Y,Y,Y,Y,Y,Y,Y,Y,Y,Y,Y,Y,Y,N]) (by kernel_rfl) (fun _ _ _ _ h=>h) R (jy (jr (ja R) (jr (ja R) (jr (ja R) (jr (ja R) js)))) zr_49 bd_49 R (fills_cons R sub_ref13_Border_0 (fills_cons R sub_ref13_Border_1 (fills_cons R sub_ref13_Border_2 (fills_cons R sub_ref13_Border_3 fills_nil))))) ?_
       refine AtH.all1 24 (by kernel_rfl) ?_
       refine AtH.eff0 [(0,1),(1,2),(2,3)] R R R R R (jx R R (ja R) 0 R (Sub.self kref13_Border) ty_49 (ja R)) (D':=#[Y,Y,Y,Y,Y,Y,Y,Y,Y,Y,Y,Y,Y,Y,Y,Y,Y,Y,Y,Y,Y,Y,Y,Y,Y]) (by kernel_rfl) (by kernel_rfl) ?_
       rintro _ _ ⟨rfl,rfl⟩
       refine AtH.done (by kernel_rfl) ?_
       refine At.vf ?_
       refine At.w [1,0] R [(0,(.eq v1)),(3,(.tv kStr id1)),(9,(.tv (kInt .i64) at4)),(10,(.eq (.pointer (some ⟨g15,0,none⟩))))] ⟨R,R,R,R,trivial⟩ (At.r ⟨(⟨s1.1,s1.2,(rd zObject m1.Objects r5).At,(rd zObject m1.Objects r6).At,([]:List BA)⟩:ref13_Border),g15,hF,R,R⟩)
     ·refine AtH.f [(0,0),(1,1),(2,2)] R R R R R R (eff_alloc R R R tz_49) (D':=#[Y,Y,Y,Y,Y,Y,Y,Y,Y,N,N,N,N,Y,Y,Y,Y,Y,N,N,N,N,N,Y,N]) (by kernel_rfl) (by kernel_rfl) ?_
      rintro _ _ ⟨g16,rfl,rfl⟩
      refine ⟨_,.inr ⟨R,flat_eq⟩,?_⟩
      refine AtH.all1 9 (by kernel_rfl) ?_
      refine AtH.f [(0,1),(1,2),(2,3)] R R R R R R (jn R R jp (jq R en_87 (jf (ja R) (jf (ja R) jg))) (ref13_Find.ok hF) (by rintro _ _ ⟨r,_,rfl,_⟩;exact flat_int)) (D':=#[Y,Y,Y,Y,Y,Y,Y,Y,Y,Y,N,N,N,Y,Y,Y,Y,Y,N,N,N,N,N,Y,N]) (by kernel_rfl) (by kernel_rfl) ?_
      rintro _ _ ⟨_,_,⟨r5,hF,rfl,rfl⟩,rfl,rfl⟩
      refine ⟨_,.inr ⟨R,flat_int⟩,?_⟩
      obtain ⟨hq38,hF⟩:=hF
      replace hF:=W.vk hF
      refine AtH.take [0,1,2] hgd 10 R R R R (D':=#[Y,Y,Y,Y,Y,Y,Y,Y,Y,Y,Y,N,N,Y,Y,Y,Y,Y,N,N,N,N,N,Y,N]) (by kernel_rfl) (fun _ _ _ _ h=>h) R (vd zObject (ja R) (ja R) Tryz.underlying22 ty_59 hq38) ?_
      refine AtH.take [0,1,2] hgd 11 R R R R (D':=#[Y,Y,Y,Y,Y,Y,Y,Y,Y,Y,Y,Y,N,Y,Y,Y,Y,Y,N,N,N,N,N,Y,N]) (by kernel_rfl) (fun _ _ _ _ h=>h) R (Jb (K:=kObject) (ja R) fa_59_2 sub_Object_2) ?_
      refine AtH.take [0,1,2] hgd 12 R R R R (D':=#[Y,Y,Y,Y,Y,Y,Y,Y,Y,Y,Y,Y,Y,Y,Y,Y,Y,Y,N,N,N,N,N,Y,N]) (by kernel_rfl) (fun _ _ _ _ h=>h) R (vo (K:=kPoint) (ja R) ty_37) ?_
      refine AtH.all1 18 (by kernel_rfl) ?_
      refine AtH.f [(0,1),(1,2),(2,3)] R R R R R R (jn R R jp (jq R en_87 (jf (ja R) (jf (ja R) jg))) (ref13_Find.ok hF) (by rintro _ _ ⟨r,_,rfl,_⟩;exact flat_int)) (D':=#[Y,Y,Y,Y,Y,Y,Y,Y,Y,Y,Y,Y,Y,Y,Y,Y,Y,Y,Y,N,N,N,N,Y,N]) (by kernel_rfl) (by kernel_rfl) ?_
      rintro _ _ ⟨_,_,⟨r6,hF,rfl,rfl⟩,rfl,rfl⟩
      refine ⟨_,.inr ⟨R,flat_int⟩,?_⟩
      obtain ⟨hq39,hF⟩:=hF
      refine AtH.take [0,1,2] hgd 19 R R R R (D':=#[Y,Y,Y,Y,Y,Y,Y,Y,Y,Y,Y,Y,Y,Y,Y,Y,Y,Y,Y,Y,N,N,N,Y,N]) (by kernel_rfl) (fun _ _ _ _ h=>h) R (vd zObject (ja R) (ja R) Tryz.underlying22 ty_59 hq39) ?_
      refine AtH.take [0,1,2] hgd 20 R R R R (D':=#[Y,Y,Y,Y,Y,Y,Y,Y,Y,Y,Y,Y,Y,Y,Y,Y,Y,Y,Y,Y,Y,N,N,Y,N]) (by kernel_rfl) (fun _ _ _ _ h=>h) R (Jb (K:=kObject) (ja R) fa_59_2 sub_Object_2) ?_
      refine AtH.take [0,1,2] hgd 21 R R R R (D':=#[Y,Y,Y,Y,Y,Y,Y,Y,Y,Y,Y,Y,Y,Y,Y,Y,Y,Y,Y,Y,Y,Y,N,Y,N]) (by kernel_rfl) (fun _ _ _ _ h=>h) R (vo (K:=kPoint) (ja R) ty_37) ?_
      refine AtH.take [0,1,2] hgd 22 R R R R (D':=#[Y,Y,Y,Y,Y,Y,Y,Y,Y,Y,Y,Y,Y,Y,Y,Y,Y,Y,Y,Y,Y,Y,Y,Y,N]) (by kernel_rfl) (fun _ _ _ _ h=>h) R (jy (jr (ja R) (jr (ja R) (jr (ja R) (jr (ja R) js)))) zr_49 bd_49 R (fills_cons R sub_ref13_Border_0 (fills_cons R sub_ref13_Border_1 (fills_cons R sub_ref13_Border_2 (fills_cons R sub_ref13_Border_3 fills_nil))))) ?_
      refine AtH.all1 24 (by kernel_rfl) ?_
      refine AtH.eff0 [(0,1),(1,2),(2,3)] R R R R R (jx R R (ja R) 0 R (Sub.self kref13_Border) ty_49 (ja R)) (D':=#[Y,Y,Y,Y,Y,Y,Y,Y,Y,Y,Y,Y,Y,Y,Y,Y,Y,Y,Y,Y,Y,Y,Y,Y,Y]) (by kernel_rfl) (by kernel_rfl) ?_
      rintro _ _ ⟨rfl,rfl⟩
      refine AtH.done (by kernel_rfl) ?_
      refine At.vf ?_
      refine At.w [1,0] R [(0,(.eq v1)),(3,(.tv kStr id1)),(9,(.tv (kInt .i64) at4)),(10,(.eq (.pointer (some ⟨g16,0,none⟩))))] ⟨R,R,R,R,trivial⟩ (At.r ⟨(⟨s1.1,s1.2,(rd zObject m1.Objects r5).At,(rd zObject m1.Objects r6).At,([]:List BA)⟩:ref13_Border),g16,hF,R,R⟩)
    ·rintro _ _ ⟨x3,g12,hF,rfl,rfl⟩
     unfold ref13_put__o.c3 at hF
     refine At.draw mixed [0,1] R [[],[]] (fun φ w hgd=>?_)
     obtain ⟨hq32,hF⟩:=hF
     obtain ⟨hq33,hF⟩:=hF
     obtain ⟨hq34,hF⟩:=hF
     obtain ⟨hq35,hF⟩:=hF
     obtain ⟨hq36,hF⟩:=hF
     obtain ⟨hq37,hF⟩:=hF
     refine AtH.take [0,1] hgd 1 R R R R (D':=#[N,Y,N,N,N,N,N,N,N,N,N,N,N]) (by kernel_rfl) (fun _ _ _ _ h=>h) R (jb (x:=(.eq v1)) (ja R)) ?_
     refine AtH.take [0,1] hgd 2 R R R R (D':=#[N,Y,Y,N,N,N,N,N,N,N,N,N,N]) (by kernel_rfl) (fun _ _ _ _ h=>h) R (jb (x:=(.tv (kInt .i64) at4)) (ja R)) ?_
     refine AtH.take [0,1] hgd 3 R R R R (D':=#[N,Y,Y,Y,N,N,N,N,N,N,N,N,N]) (by kernel_rfl) (fun _ _ _ _ h=>h) R (does_cutrow_h (ja R) 0 R (ja R) Tryz.underlying45 ty_49 hq32) ?_
     refine AtH.take [0,1] hgd 5 R R R R (D':=#[N,Y,Y,Y,N,Y,N,N,N,N,N,N,N]) (by kernel_rfl) (fun _ _ _ _ h=>h) R (jc (ja R) 1 R (Sub.self kref13_Border) ty_49) ?_
     refine AtH.take [0,1] hgd 8 R R R R (D':=#[N,Y,Y,Y,N,Y,N,N,Y,N,N,N,N]) (by kernel_rfl) (fun _ _ _ _ h=>h) R (jb (x:=(.eq v1)) (ja R)) ?_
     refine AtH.take [0,1] hgd 9 R R R R (D':=#[N,Y,Y,Y,N,Y,N,N,Y,Y,N,N,N]) (by kernel_rfl) (fun _ _ _ _ h=>h) R (jb (x:=(.tv (kInt .i64) at4)) (ja R)) ?_
     refine AtH.take [0,1] hgd 10 R R R R (D':=#[N,Y,Y,Y,N,Y,N,N,Y,Y,Y,N,N]) (by kernel_rfl) (fun _ _ _ _ h=>h) R (does_cutrow_l (ja R) 0 R (ja R) Tryz.underlying45 ty_49 hq32) ?_
     refine AtH.all2 0 6 (by kernel_rfl) ?_ ?_
     ·refine AtH.f [(0,0),(1,1)] R R R R R R (eff_lit R R R (os:=[]) R sl_45 (xs:=([]:List ref13_Border)) jg R R) (D':=#[Y,Y,Y,Y,N,Y,N,N,Y,Y,Y,N,N]) (by kernel_rfl) (by kernel_rfl) ?_
      rintro _ _ ⟨v31,rfl,rfl⟩
      refine ⟨_,.inr ⟨R,flat_eq⟩,?_⟩
      refine AtH.all2 4 6 (by kernel_rfl) ?_ ?_
      ·refine AtH.f [(0,1),(1,2)] R R R R R R (eff_append_cut R R R 0 1 R R (ja R) (ja R) hq33 sl_45 hq34) (D':=#[Y,Y,Y,Y,Y,Y,N,N,Y,Y,Y,N,N]) (by kernel_rfl) (by kernel_rfl) ?_
       rintro _ _ ⟨v32,rfl,rfl⟩
       refine ⟨_,.inr ⟨R,flat_eq⟩,?_⟩
       refine AtH.all1 6 (by kernel_rfl) ?_
       refine AtH.f [(0,1),(1,2)] R R R R R R (eff_lit R R R (os:=[.tmp 100]) R sl_45 (xs:=([x3]:List ref13_Border)) (jf (ja R) jg) R R) (D':=#[Y,Y,Y,Y,Y,Y,Y,N,Y,Y,Y,N,N]) (by kernel_rfl) (by kernel_rfl) ?_
       rintro _ _ ⟨v33,rfl,rfl⟩
       refine ⟨_,.inr ⟨R,flat_eq⟩,?_⟩
       refine AtH.all1 7 (by kernel_rfl) ?_
       refine AtH.f [(0,2),(1,3)] R R R R R R (eff_append_row R R R 1 0 R R (ja R) (ja R) sl_45 hq35) (D':=#[Y,Y,Y,Y,Y,Y,Y,Y,Y,Y,Y,N,N]) (by kernel_rfl) (by kernel_rfl) ?_
       rintro _ _ ⟨v34,rfl,rfl⟩
       refine ⟨_,.inr ⟨R,flat_eq⟩,?_⟩
       refine AtH.all1 11 (by kernel_rfl) ?_
       refine AtH.f [(0,2),(1,3)] R R R R R R (eff_append_cut R R R 1 2 R R (ja R) (ja R) hq36 sl_45 hq37) (D':=#[Y,Y,Y,Y,Y,Y,Y,Y,Y,Y,Y,Y,N]) (by kernel_rfl) (by kernel_rfl) ?_
       rintro _ _ ⟨v35,rfl,rfl⟩
       refine ⟨_,.inr ⟨R,flat_eq⟩,?_⟩
       refine AtH.take [0,1] hgd 12 R R R R (D':=#[Y,Y,Y,Y,Y,Y,Y,Y,Y,Y,Y,Y,Y]) (by kernel_rfl) (fun _ _ _ _ h=>h) R (jd (x:=(.eq v35)) (ja R)) ?_
       refine AtH.done (by kernel_rfl) ?_
       refine At.vf ?_
       refine At.w [1] R [(0,(.eq v35)),(3,(.tv kStr id1)),(9,(.tv (kInt .i64) at4))] ⟨R,R,R,trivial⟩ (At.r ⟨(((([]:List ref13_Border)++((l1.take at4.toNat).drop 0))++([x3]:List ref13_Border))++((l1.take l1.length).drop at4.toNat)),v35,hF,R,R⟩)
      ·refine AtH.f [(0,1),(1,2)] R R R R R R (eff_lit R R R (os:=[.tmp 100]) R sl_45 (xs:=([x3]:List ref13_Border)) (jf (ja R) jg) R R) (D':=#[Y,Y,Y,Y,N,Y,Y,N,Y,Y,Y,N,N]) (by kernel_rfl) (by kernel_rfl) ?_
       rintro _ _ ⟨v36,rfl,rfl⟩
       refine ⟨_,.inr ⟨R,flat_eq⟩,?_⟩
       refine AtH.all1 4 (by kernel_rfl) ?_
       refine AtH.f [(0,2),(1,3)] R R R R R R (eff_append_cut R R R 1 2 R R (ja R) (ja R) hq33 sl_45 hq34) (D':=#[Y,Y,Y,Y,Y,Y,Y,N,Y,Y,Y,N,N]) (by kernel_rfl) (by kernel_rfl) ?_
       rintro _ _ ⟨v37,rfl,rfl⟩
       refine ⟨_,.inr ⟨R,flat_eq⟩,?_⟩
       refine AtH.all1 7 (by kernel_rfl) ?_
       refine AtH.f [(0,2),(1,3)] R R R R R R (eff_append_row R R R 1 0 R R (ja R) (ja R) sl_45 hq35) (D':=#[Y,Y,Y,Y,Y,Y,Y,Y,Y,Y,Y,N,N]) (by kernel_rfl) (by kernel_rfl) ?_
       rintro _ _ ⟨v38,rfl,rfl⟩
       refine ⟨_,.inr ⟨R,flat_eq⟩,?_⟩
       refine AtH.all1 11 (by kernel_rfl) ?_
       refine AtH.f [(0,2),(1,3)] R R R R R R (eff_append_cut R R R 1 2 R R (ja R) (ja R) hq36 sl_45 hq37) (D':=#[Y,Y,Y,Y,Y,Y,Y,Y,Y,Y,Y,Y,N]) (by kernel_rfl) (by kernel_rfl) ?_
       rintro _ _ ⟨v39,rfl,rfl⟩
       refine ⟨_,.inr ⟨R,flat_eq⟩,?_⟩
       refine AtH.take [0,1] hgd 12 R R R R (D':=#[Y,Y,Y,Y,Y,Y,Y,Y,Y,Y,Y,Y,Y]) (by kernel_rfl) (fun _ _ _ _ h=>h) R (jd (x:=(.eq v39)) (ja R)) ?_
       refine AtH.done (by kernel_rfl) ?_
       refine At.vf ?_
       refine At.w [1] R [(0,(.eq v39)),(3,(.tv kStr id1)),(9,(.tv (kInt .i64) at4))] ⟨R,R,R,trivial⟩ (At.r ⟨(((([]:List ref13_Border)++((l1.take at4.toNat).drop 0))++([x3]:List ref13_Border))++((l1.take l1.length).drop at4.toNat)),v39,hF,R,R⟩)
     ·refine AtH.f [(0,0),(1,1)] R R R R R R (eff_lit R R R (os:=[.tmp 100]) R sl_45 (xs:=([x3]:List ref13_Border)) (jf (ja R) jg) R R) (D':=#[N,Y,Y,Y,N,Y,Y,N,Y,Y,Y,N,N]) (by kernel_rfl) (by kernel_rfl) ?_
      rintro _ _ ⟨v40,rfl,rfl⟩
      refine ⟨_,.inr ⟨R,flat_eq⟩,?_⟩
      refine AtH.all1 0 (by kernel_rfl) ?_
      refine AtH.f [(0,1),(1,2)] R R R R R R (eff_lit R R R (os:=[]) R sl_45 (xs:=([]:List ref13_Border)) jg R R) (D':=#[Y,Y,Y,Y,N,Y,Y,N,Y,Y,Y,N,N]) (by kernel_rfl) (by kernel_rfl) ?_
      rintro _ _ ⟨v41,rfl,rfl⟩
      refine ⟨_,.inr ⟨R,flat_eq⟩,?_⟩
      refine AtH.all1 4 (by kernel_rfl) ?_
      refine AtH.f [(0,2),(1,3)] R R R R R R (eff_append_cut R R R 0 2 R R (ja R) (ja R) hq33 sl_45 hq34) (D':=#[Y,Y,Y,Y,Y,Y,Y,N,Y,Y,Y,N,N]) (by kernel_rfl) (by kernel_rfl) ?_
      rintro _ _ ⟨v42,rfl,rfl⟩
      refine ⟨_,.inr ⟨R,flat_eq⟩,?_⟩
      refine AtH.all1 7 (by kernel_rfl) ?_
      refine AtH.f [(0,2),(1,3)] R R R R R R (eff_append_row R R R 0 1 R R (ja R) (ja R) sl_45 hq35) (D':=#[Y,Y,Y,Y,Y,Y,Y,Y,Y,Y,Y,N,N]) (by kernel_rfl) (by kernel_rfl) ?_
      rintro _ _ ⟨v43,rfl,rfl⟩
      refine ⟨_,.inr ⟨R,flat_eq⟩,?_⟩
      refine AtH.all1 11 (by kernel_rfl) ?_
      refine AtH.f [(0,2),(1,3)] R R R R R R (eff_append_cut R R R 0 2 R R (ja R) (ja R) hq36 sl_45 hq37) (D':=#[Y,Y,Y,Y,Y,Y,Y,Y,Y,Y,Y,Y,N]) (by kernel_rfl) (by kernel_rfl) ?_
      rintro _ _ ⟨v44,rfl,rfl⟩
      refine ⟨_,.inr ⟨R,flat_eq⟩,?_⟩
      refine AtH.take [0,1] hgd 12 R R R R (D':=#[Y,Y,Y,Y,Y,Y,Y,Y,Y,Y,Y,Y,Y]) (by kernel_rfl) (fun _ _ _ _ h=>h) R (jd (x:=(.eq v44)) (ja R)) ?_
      refine AtH.done (by kernel_rfl) ?_
      refine At.vf ?_
      refine At.w [0] R [(0,(.eq v44)),(3,(.tv kStr id1)),(9,(.tv (kInt .i64) at4))] ⟨R,R,R,trivial⟩ (At.r ⟨(((([]:List ref13_Border)++((l1.take at4.toNat).drop 0))++([x3]:List ref13_Border))++((l1.take l1.length).drop at4.toNat)),v44,hF,R,R⟩)
   ·replace hF:=W.ite_f hb5 hF
    refine At.skip (At.vf ?_)
    refine At.w [0] R [(0,(.eq v1)),(3,(.tv kStr id1)),(9,(.tv (kInt .i64) at4))] ⟨R,R,R,trivial⟩ (At.r ⟨l1,v1,hF,R,R⟩)
  ·rintro _ _ ⟨x2,v21,hF,rfl,rfl⟩
   unfold ref13_put__o.c2 at hF
   refine At.seq (At.region (At.d R R R R (jb (x:=(.eq v21)) (ja R)) ?_))
   refine At.d R R R R (jb (x:=(.tv (kInt .i64) at4)) (ja R)) ?_
   obtain ⟨hq17,hF⟩:=hF
   refine At.d R R R R (does_idx_row (ja R) 0 R (ja R) Tryz.underlying45 ty_49 hq17) ?_
   refine At.d R R R R (does_field_elem (ja R) fa_49_4) ?_
   obtain ⟨hq18,hF⟩:=hF
   refine At.d R R R R (Ja (ja R) 0 R at4 6 R vv hq18 sub_ref13_Border_4 ty_41) ?_
   refine At.d R R R R (jt (ja R) Tryz.underlying41) ?_
   refine At.d R R R R (jd (x:=(.tv (kInt .i64) (((rd vv x2 at4).Owners).length:Int))) (ja R)) ?_
   refine At.done (At.vf (At.seq (At.seq (At.region (At.d R R R R (jb (x:=(.tv (kInt .i64) (((rd vv x2 at4).Owners).length:Int))) (ja R)) ?_)))))
   refine At.d R R R R (jk (ja R) (ji _ _) bin_eql) ?_
   refine At.d R R R R (jb (x:=(.tv kBool ((((rd vv x2 at4).Owners).length:Int)==(0:Int)))) (ja R)) ?_
   refine At.vh R R R R (jw R) R (fun hg145=>(jb (x:=(.eq v21)) (ja R))) ?_
   refine At.vh R R R R (jw R) R (fun hg146=>(jb (x:=(.tv (kInt .i64) at4)) (ja R))) ?_
   obtain ⟨hq19,hF⟩:=hF
   refine At.vh R R R R (jw R) R (fun hg147=>(does_idx_row (jh R hg147) 0 R (jh R hg147) Tryz.underlying45 ty_49 (hq19 hg147))) ?_
   refine At.vh R R R R (jw R) R (fun hg148=>(does_field_elem (jh R hg148) fa_49_4)) ?_
   obtain ⟨hq20,hF⟩:=hF
   refine At.vh R R R R (jw R) R (fun hg149=>(Ja (jh R hg149) 0 R at4 6 R vv (hq20 hg149) sub_ref13_Border_4 ty_41)) ?_
   refine At.vh R R R R (jw R) R (fun hg150=>(jb (x:=(.tv (kInt .i64) (((rd vv x2 at4).Owners).length:Int))) (ja R))) ?_
   refine At.vh R R R R (jw R) R (fun hg151=>(jk (jh R hg151) (ji _ _) bin_sub)) ?_
   obtain ⟨hq21,hF⟩:=hF
   refine At.vh R R R R (jw R) R (fun hg152=>(vd (⟨#[]⟩:BA) (jh R hg152) (jh R hg152) Tryz.underlying41 ty_9 (hq21 hg152))) ?_
   refine At.vh R R R R (jw R) R (fun hg153=>(vo (K:=kStr) (jh R hg153) ty_9)) ?_
   refine At.vh R R R R (jw R) R (fun hg154=>(jb (x:=(.tv kStr id1)) (ja R))) ?_
   refine At.vh R R R R (jw R) R (fun hg155=>(jk (jh R hg155) (jh R hg155) bin_sneq)) ?_
   refine At.d R R R R (jm (ja R) (jl _) (ja R) pick_or) ?_
   refine At.done (At.vf ?_)
   refine At.cond (ja R) (fun hb4=>?_) (fun hb4=>?_)
   ·replace hF:=W.ite_t hb4 hF
    refine At.region (At.d R R R R (jb (x:=(.eq v21)) (ja R)) ?_)
    refine At.d R R R R (jb (x:=(.tv (kInt .i64) at4)) (ja R)) ?_
    refine At.f R (eff_lit R R R (os:=[]) R sl_41 (xs:=([]:List BA)) jg R R) ?_
    rintro _ _ ⟨v22,rfl,rfl⟩
    refine At.d R R R R (jb (x:=(.eq v21)) (ja R)) ?_
    refine At.d R R R R (jb (x:=(.tv (kInt .i64) at4)) (ja R)) ?_
    obtain ⟨hq22,hF⟩:=hF
    refine At.d R R R R (does_idx_row (ja R) 1 R (ja R) Tryz.underlying45 ty_49 hq22) ?_
    refine At.d R R R R (does_field_elem (ja R) fa_49_4) ?_
    obtain ⟨hq23,hF⟩:=hF
    refine At.d R R R R (Ja (ja R) 1 R at4 6 R vv hq23 sub_ref13_Border_4 ty_41) ?_
    obtain ⟨hq24,hF⟩:=hF
    refine At.f R (eff_append_view R R R 0 R (ja R) (ja R) sl_41 hq24) ?_
    rintro _ _ ⟨v23,rfl,rfl⟩
    refine At.d R R R R (jb (x:=(.tv kStr id1)) (ja R)) ?_
    refine At.f R (eff_lit R R R (os:=[.tmp 137]) R sl_41 (xs:=([id1]:List BA)) (jf (ja R) jg) R R) ?_
    rintro _ _ ⟨v24,rfl,rfl⟩
    obtain ⟨hq25,hF⟩:=hF
    refine At.f R (eff_append_row R R R 1 0 R R (ja R) (ja R) sl_41 hq25) ?_
    rintro _ _ ⟨v25,rfl,rfl⟩
    obtain ⟨hq26,hF⟩:=hF
    refine At.d R R R R (does_idx_row (ja R) 2 R (ja R) Tryz.underlying45 ty_49 hq26) ?_
    refine At.d R R R R (does_field_elem (ja R) fa_49_4) ?_
    refine At.freeze 1 139 R R ?_
    obtain ⟨hq27,hF⟩:=hF
    refine At.f R (eff_store_elem R R (ja R) 2 R at4 6 R vv hq27 sub_ref13_Border_4 ty_41 (ja R)) ?_
    rintro _ _ ⟨rfl,rfl⟩
    refine At.done (At.vf (At.seq (At.region (At.d R R R R (jb (x:=(.eq v21)) (ja R)) ?_))))
    refine At.d R R R R (jd (x:=(.eq v21)) (ja R)) ?_
    refine At.done (At.vf (At.ret ?_))
    exact At.j rfl (rv_tmp rfl) [2] rfl ⟨(x2.set at4.toNat ({ (rd vv x2 at4) with Owners:=((([]:List BA)++((rd vv x2 at4).Owners))++([id1]:List BA)) }:ref13_Border)),_,hF,rfl,rfl⟩
   ·replace hF:=W.ite_f hb4 hF
    refine At.skip (At.vf (At.seq (At.region (At.d R R R R (jb (x:=(.eq v21)) (ja R)) ?_))))
    refine At.d R R R R (jd (x:=(.eq v21)) (ja R)) ?_
    refine At.done (At.vf (At.ret ?_))
    exact At.j rfl (rv_tmp rfl) [0] rfl ⟨x2,_,hF,rfl,rfl⟩
def ref13_Borders.c1 (x12:(List ref13_Border)):W (List ref13_Border):=W.ret x12
def ref13_Borders.c2 (i6:Int) (A1:(List ref13_Border)→Int→W (List ref13_Border)) (x27:(List ref13_Border)):W (List ref13_Border):=A1 x27 (w64 (i6+(1:Int)))
def ref13_Borders.l2 (m1:Map) (i6:Int) (K2:(List ref13_Border)→W (List ref13_Border)) (r27:(List (BA×BA))) (A2:(List ref13_Border)→Int→W (List ref13_Border)) (x30:(List ref13_Border)) (k18:Int):W (List ref13_Border):=W.bind (W.ite (decide (k18<(r27.length:Int))) (ref13_Sound.F m1 (rd zObject m1.Objects i6)) (W.ret false)) (fun r32=>W.ite ((decide (k18<(r27.length:Int)))&&r32) (W.req (0≤k18∧k18<(r27.length:Int)) (W.bind (ref13_put__o.F x30 m1 (rd ((⟨#[]⟩:BA),(⟨#[]⟩:BA)) r27 k18) ((rd zObject m1.Objects i6).Id)) (fun r33=>A2 r33 (w64 (k18+(1:Int)))))) (K2 x30))
def ref13_Borders.l1 (m1:Map) (K1:(List ref13_Border)→W (List ref13_Border)) (A1:(List ref13_Border)→Int→W (List ref13_Border)) (x23:(List ref13_Border)) (i6:Int):W (List ref13_Border):=W.ite (decide (i6<(m1.Objects.length:Int))) (W.req (0≤i6∧i6<(m1.Objects.length:Int)) (W.bind (ref13_Sides.F (rd zObject m1.Objects i6)) (fun r27=>W.ex fun n=>W.iter2 (ref13_Borders.l2 m1 i6 (ref13_Borders.c2 i6 A1) r27) n x23 (0:Int)))) (K1 x23)
def ref13_Borders.F (m1:Map):W (List ref13_Border):=W.bind (ref13_Valid.F m1) (fun r1=>W.ite (!r1) (W.ret ([]:List ref13_Border)) (W.ex fun n=>W.iter2 (ref13_Borders.l1 m1 (ref13_Borders.c1)) n ([]:List ref13_Border) (0:Int)))
theorem ref13_Borders.ok {m1:Map} {Q:(List ref13_Border)→Prop} (hF:ref13_Borders.F m1 Q):Con Tryz.prog 22 [.tv kMap m1] [] (fun ta rs'=>∃ (r:(List ref13_Border)) (u0:Value),Q r∧ta=.eq u0∧rs'=[.row u0 49 kref13_Border r]):=by
 refine Con.i Tryz.func22 Tryz.ntmps22 R R (fun C=>?_)
 unfold ref13_Borders.F at hF
 refine At.seq (At.region (At.f R (eff_box R R R (ja R)) ?_))
 rintro _ _ ⟨g1,rfl,rfl⟩
 refine At.d R R R R (jd (x:=(.eq (.slice none 0 0))) (opd_eq _)) ?_
 refine At.done (At.vf (At.seq (At.region (At.d R R R R (jd (x:=(.eq (.slice none 0 0))) (opd_eq _)) ?_))))
 refine At.done (At.vf (At.seq (At.seq (At.region (At.d R R R R (jc (ja R) 0 R (Sub.self kMap) ty_24) ?_)))))
 replace hF:=W.vk hF
 refine At.f R (jn R R jp (jq R en_47 (jf (ja R) jg)) (ref13_Valid.ok hF) (by rintro _ _ ⟨r,_,rfl,_⟩;exact vj)) ?_
 rintro _ _ ⟨_,_,⟨r1,hF,rfl,rfl⟩,rfl,rfl⟩
 refine At.d R R R R (does_not (ja R)) ?_
 refine At.done (At.vf ?_)
 refine At.cond (ja R) (fun hb1=>?_) (fun hb1=>?_)
 ·replace hF:=W.ite_t hb1 hF
  refine At.seq (At.region (At.d R R R R (jd (x:=(.eq (.slice none 0 0))) (opd_eq _)) ?_))
  refine At.done (At.vf (At.ret (At.vg ?_)))
  refine At.nilrow 49 kref13_Border ?_
  exact At.j rfl (rv_tmp rfl) [0] rfl ⟨([]:List ref13_Border),_,hF,rfl,rfl⟩
 ·replace hF:=W.ite_f hb1 hF
  refine At.skip (At.vf ?_)
  refine At.cut (fun rs L=>∃ (x12:(List ref13_Border)) (v22:Value),ref13_Borders.c1 x12 Q∧rs=[.row v22 49 kref13_Border x12]∧L=mkL [(3,(.eq v22))]) ?_ ?_
  ·refine At.seq (At.region (At.d R R R R (jd (x:=(.tv (kInt .i64) (0:Int))) (ji _ _)) ?_))
   refine At.done (At.vf (At.block ?_))
   refine At.nilrow 49 kref13_Border ?_
   obtain ⟨n2,hF⟩:=hF
   refine At.w [1,0] R [(1,(.eq (.pointer (some ⟨g1,0,none⟩)))),(3,(.eq (.slice none 0 0))),(4,(.tv (kInt .i64) (0:Int)))] ⟨R,R,R,trivial⟩ ?_
   refine At.loop (fun m rs L=>∃ (x23:(List ref13_Border)) (v43:Value) (i6:Int),W.iter2 (ref13_Borders.l1 m1 (ref13_Borders.c1)) m x23 i6 Q∧rs=[.box g1 24 kMap m1,.row v43 49 kref13_Border x23]∧L=mkL [(1,(.eq (.pointer (some ⟨g1,0,none⟩)))),(3,(.eq v43)),(4,(.tv (kInt .i64) i6))]) ?_ ?_ (m:=n2) ⟨([]:List ref13_Border),(.slice none 0 0),(0:Int),hF,R,R⟩
   ·rintro rs L ⟨_,_,_,hF,_,_⟩;exact hF
   ·rintro m2 _ _ ⟨x23,v43,i6,hF,rfl,rfl⟩
    replace hF:=W.iter2_s hF
    unfold ref13_Borders.l1 at hF
    refine At.seq (At.seq (At.region (At.d R R R R (jb (x:=(.tv (kInt .i64) i6)) (ja R)) ?_)))
    refine At.d R R R R (je (ja R) fa_24_0) ?_
    refine At.d R R R R (jc (ja R) 0 R sub_Map_0 ty_22) ?_
    refine At.d R R R R (jt (ja R) Tryz.underlying22) ?_
    refine At.d R R R R (jk (ja R) (ja R) vc) ?_
    refine At.done (At.vf ?_)
    refine At.cond (ja R) (fun hb14=>?_) (fun hb14=>?_)
    ·replace hF:=W.ite_t hb14 hF
     refine At.skip (At.vf ?_)
     refine At.cut (fun rs L=>∃ (x27:(List ref13_Border)) (v52:Value),ref13_Borders.c2 i6 (W.iter2 (ref13_Borders.l1 m1 (ref13_Borders.c1)) m2) x27 Q∧rs=[.box g1 24 kMap m1,.row v52 49 kref13_Border x27]∧L=mkL [(1,(.eq (.pointer (some ⟨g1,0,none⟩)))),(3,(.eq v52)),(4,(.tv (kInt .i64) i6))]) ?_ ?_
     ·refine At.block (At.seq (At.region (At.d R R R R (je (ja R) fa_24_0) ?_)))
      refine At.d R R R R (jc (ja R) 0 R sub_Map_0 ty_22) ?_
      refine At.d R R R R (jb (x:=(.tv (kInt .i64) i6)) (ja R)) ?_
      obtain ⟨hq16,hF⟩:=hF
      refine At.d R R R R (vd zObject (ja R) (ja R) Tryz.underlying22 ty_59 hq16) ?_
      refine At.d R R R R (vo (K:=kObject) (ja R) ty_59) ?_
      refine At.f R (eff_alloc R R R tz_59) ?_
      rintro _ _ ⟨g7,rfl,rfl⟩
      refine At.f R (jx R R (ja R) 0 R (Sub.self kObject) ty_59 (ja R)) ?_
      rintro _ _ ⟨rfl,rfl⟩
      refine At.done (At.vf (At.seq (At.region (At.d R R R R (jc (ja R) 0 R (Sub.self kObject) ty_59) ?_))))
      replace hF:=W.vk hF
      refine At.f R (jo R R (jq R en_51 (jf (ja R) jg)) [] R (ref13_Sides.ok hF)) ?_
      rintro _ _ ⟨_,_,⟨r27,v53,hF,rfl,rfl⟩,rfl,rfl⟩
      refine At.d R R R R (jd (x:=(.eq v53)) (ja R)) ?_
      refine At.done (At.vf (At.seq (At.region (At.d R R R R (jd (x:=(.tv (kInt .i64) (0:Int))) (ji _ _)) ?_))))
      refine At.done (At.vf (At.block ?_))
      obtain ⟨n1,hF⟩:=hF
      refine At.w [2,3,1,0] R [(1,(.eq (.pointer (some ⟨g1,0,none⟩)))),(3,(.eq v43)),(4,(.tv (kInt .i64) i6)),(5,(.eq (.pointer (some ⟨g7,0,none⟩)))),(6,(.eq v53)),(7,(.tv (kInt .i64) (0:Int)))] ⟨R,R,R,R,R,R,trivial⟩ ?_
      refine At.loop (fun m rs L=>∃ (x30:(List ref13_Border)) (v60:Value) (k18:Int),W.iter2 (ref13_Borders.l2 m1 i6 (ref13_Borders.c2 i6 (W.iter2 (ref13_Borders.l1 m1 (ref13_Borders.c1)) m2)) r27) m x30 k18 Q∧rs=[.box g1 24 kMap m1,.row v60 49 kref13_Border x30,.box g7 59 kObject (rd zObject m1.Objects i6),.row v53 50 (kPair kStr kStr) r27]∧L=mkL [(1,(.eq (.pointer (some ⟨g1,0,none⟩)))),(3,(.eq v60)),(4,(.tv (kInt .i64) i6)),(5,(.eq (.pointer (some ⟨g7,0,none⟩)))),(6,(.eq v53)),(7,(.tv (kInt .i64) k18))]) ?_ ?_ (m:=n1) ⟨x23,v43,(0:Int),hF,R,R⟩
      ·rintro rs L ⟨_,_,_,hF,_,_⟩;exact hF
      ·rintro m3 _ _ ⟨x30,v60,k18,hF,rfl,rfl⟩
       replace hF:=W.iter2_s hF
       unfold ref13_Borders.l2 at hF
       refine At.seq (At.seq (At.region (At.d R R R R (jb (x:=(.tv (kInt .i64) k18)) (ja R)) ?_)))
       refine At.d R R R R (jb (x:=(.eq v53)) (ja R)) ?_
       refine At.d R R R R (does_len_row (ja R) 3 R Tryz.underlying51) ?_
       refine At.d R R R R (jk (ja R) (ja R) vc) ?_
       refine At.d R R R R (jb (x:=(.tv kBool (decide (k18<(r27.length:Int))))) (ja R)) ?_
       refine At.vh R R R R (jv R) R (fun hg37=>(jc (ja R) 0 R (Sub.self kMap) ty_24)) ?_
       refine At.vh R R R R (jv R) R (fun hg38=>(jc (ja R) 2 R (Sub.self kObject) ty_59)) ?_
       replace hF:=W.vk hF
       refine At.effG R R R R (jv R) hF (fun r=>.tv kBool r) (fun hg39 hF=>eff_of (jn R R jp (jq R en_52 (jf (jh R hg39) (jf (jh R hg39) jg))) (ref13_Sound.ok hF) (by rintro _ _ ⟨r,_,rfl,_⟩;exact vj)) (by rintro _ _ ⟨_,_,⟨r,hF,rfl,rfl⟩,rfl,rfl⟩;exact ⟨r,hF,R,R⟩)) (fun r32 hF=>?_)
       refine At.d R R R R (jm (ja R) (ja R) (jl _) pick_and) ?_
       refine At.done (At.vf ?_)
       refine At.cond (ja R) (fun hb19=>?_) (fun hb19=>?_)
       ·replace hF:=W.ite_t hb19 hF
        refine At.skip (At.vf (At.seq (At.block ?_)))
        refine At.draw mixed [0,1,2,3] R [[],[8],[],[]] (fun φ w hgd=>?_)
        obtain ⟨hq19,hF⟩:=hF
        replace hF:=W.vk hF
        refine AtH.take [0,1,2,3] hgd 0 R R R R (D':=#[Y,N,N,N,N,N,N,N,N,N]) (by kernel_rfl) (fun _ _ _ _ h=>h) R (jb (x:=(.eq v60)) (ja R)) ?_
        refine AtH.take [0,1,2,3] hgd 1 R R R R (D':=#[Y,Y,N,N,N,N,N,N,N,N]) (by kernel_rfl) (fun _ _ _ _ h=>h) R (jc (ja R) 0 R (Sub.self kMap) ty_24) ?_
        refine AtH.take [0,2,3] hgd 2 R R R R (D':=#[Y,Y,Y,N,N,N,N,N,N,N]) (by kernel_rfl) (fun _ _ _ _ h=>h) R (jb (x:=(.eq v53)) (ja R)) ?_
        refine AtH.take [0,2,3] hgd 3 R R R R (D':=#[Y,Y,Y,Y,N,N,N,N,N,N]) (by kernel_rfl) (fun _ _ _ _ h=>h) R (jb (x:=(.tv (kInt .i64) k18)) (ja R)) ?_
        refine AtH.take [0,2,3] hgd 4 R R R R (D':=#[Y,Y,Y,Y,Y,N,N,N,N,N]) (by kernel_rfl) (fun _ _ _ _ h=>h) R (does_idx_row (ja R) 2 R (ja R) Tryz.underlying51 ty_50 hq19) ?_
        refine AtH.take [0,1,2,3] hgd 5 R R R R (D':=#[Y,Y,Y,Y,Y,Y,N,N,N,N]) (by kernel_rfl) (fun _ _ _ _ h=>h) R (Ja (ja R) 3 R k18 0 R ((⟨#[]⟩:BA),(⟨#[]⟩:BA)) hq19 (Sub.self (kPair kStr kStr)) ty_50) ?_
        refine AtH.take [0,2,3] hgd 6 R R R R (D':=#[Y,Y,Y,Y,Y,Y,Y,N,N,N]) (by kernel_rfl) (fun _ _ _ _ h=>h) R (je (ja R) fa_59_0) ?_
        refine AtH.take [0,1,2,3] hgd 7 R R R R (D':=#[Y,Y,Y,Y,Y,Y,Y,Y,N,N]) (by kernel_rfl) (fun _ _ _ _ h=>h) R (jc (ja R) 2 R sub_Object_0 ty_9) ?_
        refine AtH.all1 8 (by kernel_rfl) ?_
        refine AtH.f [(0,0),(2,2),(3,3)] R R R R R R (jo R R (jq R en_53 (jf (ja R) (jf (ja R) (jf (ja R) (jf (ja R) jg))))) [1] R (ref13_put__o.ok hF)) (D':=#[Y,Y,Y,Y,Y,Y,Y,Y,Y,N]) (by kernel_rfl) (by kernel_rfl) ?_
        rintro _ _ ⟨_,_,⟨r33,v62,hF,rfl,rfl⟩,rfl,rfl⟩
        refine ⟨.any,.inl R,?_⟩
        refine AtH.all1 9 (by kernel_rfl) ?_
        refine AtH.f [(0,1),(2,3),(3,4)] R R R R R R (eff_does R R R (jd (x:=(.eq v62)) (ja R))) (D':=#[Y,Y,Y,Y,Y,Y,Y,Y,Y,Y]) (by kernel_rfl) (by kernel_rfl) ?_
        rintro _ _ ⟨rfl,rfl⟩
        refine ⟨.any,.inl R,?_⟩
        refine AtH.done (by kernel_rfl) ?_
        refine At.n ?_
        refine At.vf (At.region (At.d R R R R (jb (x:=(.tv (kInt .i64) k18)) (ja R)) ?_))
        refine At.d R R R R (jk (ja R) (ji _ _) jz) ?_
        refine At.d R R R R (jd (x:=(.tv (kInt .i64) (w64 (k18+(1:Int))))) (ja R)) ?_
        refine At.done (At.vf ?_)
        refine At.w [1,0,3,4] R [(1,(.eq (.pointer (some ⟨g1,0,none⟩)))),(3,(.eq v62)),(4,(.tv (kInt .i64) i6)),(5,(.eq (.pointer (some ⟨g7,0,none⟩)))),(6,(.eq v53)),(7,(.tv (kInt .i64) (w64 (k18+(1:Int)))))] ⟨R,R,R,R,R,R,trivial⟩ (At.r ⟨r33,v62,(w64 (k18+(1:Int))),hF,R,R⟩)
       ·replace hF:=W.ite_f hb19 hF
        refine At.exit ?_
        refine At.x (At.x ?_)
        refine At.h ?_
        refine At.n ?_
        refine At.vf ?_
        refine At.w [0,1] R [(1,(.eq (.pointer (some ⟨g1,0,none⟩)))),(3,(.eq v60)),(4,(.tv (kInt .i64) i6))] ⟨R,R,R,trivial⟩ (At.r ⟨x30,v60,hF,R,R⟩)
     ·rintro _ _ ⟨x27,v52,hF,rfl,rfl⟩
      unfold ref13_Borders.c2 at hF
      refine At.region (At.d R R R R (jb (x:=(.tv (kInt .i64) i6)) (ja R)) ?_)
      refine At.d R R R R (jk (ja R) (ji _ _) jz) ?_
      refine At.d R R R R (jd (x:=(.tv (kInt .i64) (w64 (i6+(1:Int))))) (ja R)) ?_
      refine At.done (At.vf ?_)
      refine At.w [0,1] R [(1,(.eq (.pointer (some ⟨g1,0,none⟩)))),(3,(.eq v52)),(4,(.tv (kInt .i64) (w64 (i6+(1:Int)))))] ⟨R,R,R,trivial⟩ (At.r ⟨x27,v52,(w64 (i6+(1:Int))),hF,R,R⟩)
    ·replace hF:=W.ite_f hb14 hF
     refine At.exit ?_
     refine At.x (At.x ?_)
     refine At.h ?_
     refine At.vf ?_
     refine At.w [1] R [(3,(.eq v43))] ⟨R,trivial⟩ (At.r ⟨x23,v43,hF,R,R⟩)
  ·rintro _ _ ⟨x12,v22,hF,rfl,rfl⟩
   unfold ref13_Borders.c1 at hF
   refine At.seq (At.region (At.d R R R R (jb (x:=(.eq v22)) (ja R)) ?_))
   refine At.d R R R R (jd (x:=(.eq v22)) (ja R)) ?_
   refine At.done (At.vf (At.ret ?_))
   exact At.j rfl (rv_tmp rfl) [0] rfl ⟨x12,_,hF,rfl,rfl⟩
def ref13_Few.c1:W Bool:=W.ret true
def ref13_Few.c2 (i6:Int) (A1:Int→W Bool):W Bool:=A1 (w64 (i6+(1:Int)))
def ref13_Few.l2 (m1:Map) (i6:Int) (K2:W Bool) (A2:Int→W Bool) (k36:Int):W Bool:=W.ite (decide (k36<(((rd zObject m1.Objects i6).Tags).length:Int))) (W.req (0≤k36∧k36<(((rd zObject m1.Objects i6).Tags).length:Int)) (W.ite (decide ((300:Int)<(w64 ((((rd zTag ((rd zObject m1.Objects i6).Tags) k36).Key).size:Int)+(((rd zTag ((rd zObject m1.Objects i6).Tags) k36).Value).size:Int))))) (W.ret false) (A2 (w64 (k36+(1:Int)))))) (K2)
def ref13_Few.c3 (m1:Map) (i6:Int) (K2:W Bool):W Bool:=W.ex fun n=>W.iter1 (ref13_Few.l2 m1 i6 K2) n (0:Int)
def ref13_Few.l3 (m1:Map) (i6:Int) (K3:W Bool) (A3:Int→W Bool) (k39:Int):W Bool:=W.ite (decide (k39<(((rd zObject m1.Objects i6).Refs).length:Int))) (W.req (0≤k39∧k39<(((rd zObject m1.Objects i6).Refs).length:Int)) (W.ite (decide ((60:Int)<((rd (⟨#[]⟩:BA) ((rd zObject m1.Objects i6).Refs) k39).size:Int))) (W.ret false) (A3 (w64 (k39+(1:Int)))))) (K3)
def ref13_Few.l1 (m1:Map) (K1:W Bool) (A1:Int→W Bool) (i6:Int):W Bool:=W.ite (decide (i6<(m1.Objects.length:Int))) (W.req (0≤i6∧i6<(m1.Objects.length:Int)) (W.ite (((decide ((12:Int)<(((rd zObject m1.Objects i6).Refs).length:Int)))||(decide ((20:Int)<(((rd zObject m1.Objects i6).Tags).length:Int))))||(decide ((60:Int)<(((rd zObject m1.Objects i6).Id).size:Int)))) (W.ret false) (W.ex fun n=>W.iter1 (ref13_Few.l3 m1 i6 (ref13_Few.c3 m1 i6 (ref13_Few.c2 i6 A1))) n (0:Int)))) (K1)
def ref13_Few.F (m1:Map) (most1:Int):W Bool:=W.ite (decide (most1<(m1.Objects.length:Int))) (W.ret false) (W.ex fun n=>W.iter1 (ref13_Few.l1 m1 (ref13_Few.c1)) n (0:Int))
theorem ref13_Few.ok {m1:Map} {most1:Int} {Q:Bool→Prop} (hF:ref13_Few.F m1 most1 Q):Con Tryz.prog 11 [.tv kMap m1,.tv (kInt .i64) most1] [] (fun ta rs'=>∃ (r:Bool),Q r∧ta=.tv kBool r∧rs'=[]):=by
 refine Con.i Tryz.func11 Tryz.ntmps11 R R (fun C=>?_)
 unfold ref13_Few.F at hF
 refine At.seq (At.region (At.f R (eff_box R R R (ja R)) ?_))
 rintro _ _ ⟨g1,rfl,rfl⟩
 refine At.d R R R R (jd (x:=(.tv kBool false)) (jl _)) ?_
 refine At.done (At.vf (At.seq (At.seq (At.region (At.d R R R R (je (ja R) fa_24_0) ?_)))))
 refine At.d R R R R (jc (ja R) 0 R sub_Map_0 ty_22) ?_
 refine At.d R R R R (jt (ja R) Tryz.underlying22) ?_
 refine At.d R R R R (jb (x:=(.tv (kInt .i64) most1)) (ja R)) ?_
 refine At.d R R R R (jk (ja R) (ja R) bin_gtr) ?_
 refine At.done (At.vf ?_)
 refine At.cond (ja R) (fun hb1=>?_) (fun hb1=>?_)
 ·replace hF:=W.ite_t hb1 hF
  refine At.seq (At.region (At.d R R R R (jd (x:=(.tv kBool false)) (jl _)) ?_))
  refine At.done (At.vf (At.ret (At.vg ?_)))
  exact At.j rfl (rv_tmp rfl) [] rfl ⟨false,hF,rfl,rfl⟩
 ·replace hF:=W.ite_f hb1 hF
  refine At.skip (At.vf ?_)
  refine At.cut (fun rs L=>∃ _:Unit,ref13_Few.c1 Q∧rs=[]∧L=mkL []) ?_ ?_
  ·refine At.seq (At.region (At.d R R R R (jd (x:=(.tv (kInt .i64) (0:Int))) (ji _ _)) ?_))
   refine At.done (At.vf (At.block ?_))
   obtain ⟨n3,hF⟩:=hF
   refine At.w [0] R [(2,(.eq (.pointer (some ⟨g1,0,none⟩)))),(5,(.tv (kInt .i64) (0:Int)))] ⟨R,R,trivial⟩ ?_
   refine At.loop (fun m rs L=>∃ (i6:Int),W.iter1 (ref13_Few.l1 m1 (ref13_Few.c1)) m i6 Q∧rs=[.box g1 24 kMap m1]∧L=mkL [(2,(.eq (.pointer (some ⟨g1,0,none⟩)))),(5,(.tv (kInt .i64) i6))]) ?_ ?_ (m:=n3) ⟨(0:Int),hF,R,R⟩
   ·rintro rs L ⟨_,hF,_,_⟩;exact hF
   ·rintro m2 _ _ ⟨i6,hF,rfl,rfl⟩
    replace hF:=W.iter1_s hF
    unfold ref13_Few.l1 at hF
    refine At.seq (At.seq (At.region (At.d R R R R (jb (x:=(.tv (kInt .i64) i6)) (ja R)) ?_)))
    refine At.d R R R R (je (ja R) fa_24_0) ?_
    refine At.d R R R R (jc (ja R) 0 R sub_Map_0 ty_22) ?_
    refine At.d R R R R (jt (ja R) Tryz.underlying22) ?_
    refine At.d R R R R (jk (ja R) (ja R) vc) ?_
    refine At.done (At.vf ?_)
    refine At.cond (ja R) (fun hb42=>?_) (fun hb42=>?_)
    ·replace hF:=W.ite_t hb42 hF
     refine At.skip (At.vf ?_)
     refine At.cut (fun rs L=>∃ _:Unit,ref13_Few.c2 i6 (W.iter1 (ref13_Few.l1 m1 (ref13_Few.c1)) m2) Q∧rs=[.box g1 24 kMap m1]∧L=mkL [(2,(.eq (.pointer (some ⟨g1,0,none⟩)))),(5,(.tv (kInt .i64) i6))]) ?_ ?_
     ·refine At.block (At.seq (At.region (At.d R R R R (je (ja R) fa_24_0) ?_)))
      refine At.d R R R R (jc (ja R) 0 R sub_Map_0 ty_22) ?_
      refine At.d R R R R (jb (x:=(.tv (kInt .i64) i6)) (ja R)) ?_
      obtain ⟨hq26,hF⟩:=hF
      refine At.d R R R R (vd zObject (ja R) (ja R) Tryz.underlying22 ty_59 hq26) ?_
      refine At.d R R R R (vo (K:=kObject) (ja R) ty_59) ?_
      refine At.f R (eff_alloc R R R tz_59) ?_
      rintro _ _ ⟨g7,rfl,rfl⟩
      refine At.f R (jx R R (ja R) 0 R (Sub.self kObject) ty_59 (ja R)) ?_
      rintro _ _ ⟨rfl,rfl⟩
      refine At.done (At.vf (At.seq (At.seq (At.region (At.d R R R R (je (ja R) fa_59_3) ?_)))))
      refine At.d R R R R (jc (ja R) 0 R sub_Object_3 ty_41) ?_
      refine At.d R R R R (jt (ja R) Tryz.underlying41) ?_
      refine At.d R R R R (jk (ja R) (ji _ _) bin_gtr) ?_
      refine At.d R R R R (jb (x:=(.tv kBool (decide ((12:Int)<(((rd zObject m1.Objects i6).Refs).length:Int))))) (ja R)) ?_
      refine At.vh R R R R (jw R) R (fun hg41=>(je (ja R) fa_59_4)) ?_
      refine At.vh R R R R (jw R) R (fun hg42=>(jc (jh R hg42) 0 R sub_Object_4 ty_57)) ?_
      refine At.vh R R R R (jw R) R (fun hg43=>(jt (jh R hg43) Tryz.underlying57)) ?_
      refine At.vh R R R R (jw R) R (fun hg44=>(jk (jh R hg44) (ji _ _) bin_gtr)) ?_
      refine At.d R R R R (jm (ja R) (jl _) (ja R) pick_or) ?_
      refine At.d R R R R (jb (x:=(.tv kBool ((decide ((12:Int)<(((rd zObject m1.Objects i6).Refs).length:Int)))||(decide ((20:Int)<(((rd zObject m1.Objects i6).Tags).length:Int)))))) (ja R)) ?_
      refine At.vh R R R R (jw R) R (fun hg45=>(je (ja R) fa_59_0)) ?_
      refine At.vh R R R R (jw R) R (fun hg46=>(jc (jh R hg46) 0 R sub_Object_0 ty_9)) ?_
      refine At.vh R R R R (jw R) R (fun hg47=>(does_len_str (jh R hg47) Tryz.underlying9)) ?_
      refine At.vh R R R R (jw R) R (fun hg48=>(jk (jh R hg48) (ji _ _) bin_gtr)) ?_
      refine At.d R R R R (jm (ja R) (jl _) (ja R) pick_or) ?_
      refine At.done (At.vf ?_)
      refine At.cond (ja R) (fun hb52=>?_) (fun hb52=>?_)
      ·replace hF:=W.ite_t hb52 hF
       refine At.seq (At.region (At.d R R R R (jd (x:=(.tv kBool false)) (jl _)) ?_))
       refine At.done (At.vf (At.ret (At.vg ?_)))
       refine At.q ?_
       refine At.vg (At.vg ?_)
       refine At.q ?_
       refine At.vg ?_
       exact At.j rfl (rv_tmp rfl) [] rfl ⟨false,hF,rfl,rfl⟩
      ·replace hF:=W.ite_f hb52 hF
       refine At.skip (At.vf ?_)
       refine At.cut (fun rs L=>∃ _:Unit,ref13_Few.c3 m1 i6 (ref13_Few.c2 i6 (W.iter1 (ref13_Few.l1 m1 (ref13_Few.c1)) m2)) Q∧rs=[.box g1 24 kMap m1,.box g7 59 kObject (rd zObject m1.Objects i6)]∧L=mkL [(2,(.eq (.pointer (some ⟨g1,0,none⟩)))),(5,(.tv (kInt .i64) i6)),(6,(.eq (.pointer (some ⟨g7,0,none⟩))))]) ?_ ?_
       ·refine At.seq (At.region (At.d R R R R (jd (x:=(.tv (kInt .i64) (0:Int))) (ji _ _)) ?_))
        refine At.done (At.vf (At.block ?_))
        obtain ⟨n2,hF⟩:=hF
        refine At.w [1,0] R [(2,(.eq (.pointer (some ⟨g1,0,none⟩)))),(5,(.tv (kInt .i64) i6)),(6,(.eq (.pointer (some ⟨g7,0,none⟩)))),(7,(.tv (kInt .i64) (0:Int)))] ⟨R,R,R,R,trivial⟩ ?_
        refine At.loop (fun m rs L=>∃ (k39:Int),W.iter1 (ref13_Few.l3 m1 i6 (ref13_Few.c3 m1 i6 (ref13_Few.c2 i6 (W.iter1 (ref13_Few.l1 m1 (ref13_Few.c1)) m2)))) m k39 Q∧rs=[.box g1 24 kMap m1,.box g7 59 kObject (rd zObject m1.Objects i6)]∧L=mkL [(2,(.eq (.pointer (some ⟨g1,0,none⟩)))),(5,(.tv (kInt .i64) i6)),(6,(.eq (.pointer (some ⟨g7,0,none⟩)))),(7,(.tv (kInt .i64) k39))]) ?_ ?_ (m:=n2) ⟨(0:Int),hF,R,R⟩
        ·rintro rs L ⟨_,hF,_,_⟩;exact hF
        ·rintro m4 _ _ ⟨k39,hF,rfl,rfl⟩
         replace hF:=W.iter1_s hF
         unfold ref13_Few.l3 at hF
         refine At.seq (At.seq (At.region (At.d R R R R (jb (x:=(.tv (kInt .i64) k39)) (ja R)) ?_)))
         refine At.d R R R R (je (ja R) fa_59_3) ?_
         refine At.d R R R R (jc (ja R) 1 R sub_Object_3 ty_41) ?_
         refine At.d R R R R (jt (ja R) Tryz.underlying41) ?_
         refine At.d R R R R (jk (ja R) (ja R) vc) ?_
         refine At.done (At.vf ?_)
         refine At.cond (ja R) (fun hb67=>?_) (fun hb67=>?_)
         ·replace hF:=W.ite_t hb67 hF
          refine At.skip (At.vf (At.seq (At.block (At.seq (At.region (At.d R R R R (je (ja R) fa_59_3) ?_))))))
          refine At.d R R R R (jc (ja R) 1 R sub_Object_3 ty_41) ?_
          refine At.d R R R R (jb (x:=(.tv (kInt .i64) k39)) (ja R)) ?_
          obtain ⟨hq34,hF⟩:=hF
          refine At.d R R R R (vd (⟨#[]⟩:BA) (ja R) (ja R) Tryz.underlying41 ty_9 hq34) ?_
          refine At.d R R R R (vo (K:=kStr) (ja R) ty_9) ?_
          refine At.d R R R R (does_len_str (ja R) Tryz.underlying9) ?_
          refine At.d R R R R (jk (ja R) (ji _ _) bin_gtr) ?_
          refine At.done (At.vf ?_)
          refine At.cond (ja R) (fun hb68=>?_) (fun hb68=>?_)
          ·replace hF:=W.ite_t hb68 hF
           refine At.seq (At.region (At.d R R R R (jd (x:=(.tv kBool false)) (jl _)) ?_))
           refine At.done (At.vf (At.ret ?_))
           refine At.q ?_
           refine At.vg (At.vg ?_)
           refine At.q ?_
           refine At.vg ?_
           refine At.q ?_
           refine At.vg (At.vg ?_)
           refine At.q ?_
           refine At.vg ?_
           exact At.j rfl (rv_tmp rfl) [] rfl ⟨false,hF,rfl,rfl⟩
          ·replace hF:=W.ite_f hb68 hF
           refine At.skip ?_
           refine At.n ?_
           refine At.vf (At.region (At.d R R R R (jb (x:=(.tv (kInt .i64) k39)) (ja R)) ?_))
           refine At.d R R R R (jk (ja R) (ji _ _) jz) ?_
           refine At.d R R R R (jd (x:=(.tv (kInt .i64) (w64 (k39+(1:Int))))) (ja R)) ?_
           refine At.done (At.vf ?_)
           refine At.w [0,1] R [(2,(.eq (.pointer (some ⟨g1,0,none⟩)))),(5,(.tv (kInt .i64) i6)),(6,(.eq (.pointer (some ⟨g7,0,none⟩)))),(7,(.tv (kInt .i64) (w64 (k39+(1:Int)))))] ⟨R,R,R,R,trivial⟩ (At.r ⟨(w64 (k39+(1:Int))),hF,R,R⟩)
         ·replace hF:=W.ite_f hb67 hF
          refine At.exit ?_
          refine At.x (At.x ?_)
          refine At.h ?_
          refine At.vf ?_
          refine At.w [0,1] R [(2,(.eq (.pointer (some ⟨g1,0,none⟩)))),(5,(.tv (kInt .i64) i6)),(6,(.eq (.pointer (some ⟨g7,0,none⟩))))] ⟨R,R,R,trivial⟩ (At.r ⟨(),hF,R,R⟩)
       ·rintro _ _ ⟨_,hF,rfl,rfl⟩
        unfold ref13_Few.c3 at hF
        refine At.seq (At.region (At.d R R R R (jd (x:=(.tv (kInt .i64) (0:Int))) (ji _ _)) ?_))
        refine At.done (At.vf (At.block ?_))
        obtain ⟨n1,hF⟩:=hF
        refine At.w [0,1] R [(2,(.eq (.pointer (some ⟨g1,0,none⟩)))),(5,(.tv (kInt .i64) i6)),(6,(.eq (.pointer (some ⟨g7,0,none⟩)))),(8,(.tv (kInt .i64) (0:Int)))] ⟨R,R,R,R,trivial⟩ ?_
        refine At.loop (fun m rs L=>∃ (k36:Int),W.iter1 (ref13_Few.l2 m1 i6 (ref13_Few.c2 i6 (W.iter1 (ref13_Few.l1 m1 (ref13_Few.c1)) m2))) m k36 Q∧rs=[.box g1 24 kMap m1,.box g7 59 kObject (rd zObject m1.Objects i6)]∧L=mkL [(2,(.eq (.pointer (some ⟨g1,0,none⟩)))),(5,(.tv (kInt .i64) i6)),(6,(.eq (.pointer (some ⟨g7,0,none⟩)))),(8,(.tv (kInt .i64) k36))]) ?_ ?_ (m:=n1) ⟨(0:Int),hF,R,R⟩
        ·rintro rs L ⟨_,hF,_,_⟩;exact hF
        ·rintro m3 _ _ ⟨k36,hF,rfl,rfl⟩
         replace hF:=W.iter1_s hF
         unfold ref13_Few.l2 at hF
         refine At.seq (At.seq (At.region (At.d R R R R (jb (x:=(.tv (kInt .i64) k36)) (ja R)) ?_)))
         refine At.d R R R R (je (ja R) fa_59_4) ?_
         refine At.d R R R R (jc (ja R) 1 R sub_Object_4 ty_57) ?_
         refine At.d R R R R (jt (ja R) Tryz.underlying57) ?_
         refine At.d R R R R (jk (ja R) (ja R) vc) ?_
         refine At.done (At.vf ?_)
         refine At.cond (ja R) (fun hb61=>?_) (fun hb61=>?_)
         ·replace hF:=W.ite_t hb61 hF
          refine At.skip (At.vf (At.seq (At.block (At.seq ?_))))
          refine At.draw mixed [0,1] R [[],[]] (fun φ w hgd=>?_)
          obtain ⟨hq31,hF⟩:=hF
          refine AtH.take [0,1] hgd 0 R R R R (D':=#[Y,N,N,N,N,N,N,N,N,N,N,N,N,N,N,N]) (by kernel_rfl) (fun _ _ _ _ h=>h) R (je (ja R) fa_59_4) ?_
          refine AtH.take [0,1] hgd 1 R R R R (D':=#[Y,Y,N,N,N,N,N,N,N,N,N,N,N,N,N,N]) (by kernel_rfl) (fun _ _ _ _ h=>h) R (jc (ja R) 1 R sub_Object_4 ty_57) ?_
          refine AtH.take [0,1] hgd 2 R R R R (D':=#[Y,Y,Y,N,N,N,N,N,N,N,N,N,N,N,N,N]) (by kernel_rfl) (fun _ _ _ _ h=>h) R (jb (x:=(.tv (kInt .i64) k36)) (ja R)) ?_
          refine AtH.take [0,1] hgd 3 R R R R (D':=#[Y,Y,Y,Y,N,N,N,N,N,N,N,N,N,N,N,N]) (by kernel_rfl) (fun _ _ _ _ h=>h) R (vd zTag (ja R) (ja R) Tryz.underlying57 ty_73 hq31) ?_
          refine AtH.take [0,1] hgd 4 R R R R (D':=#[Y,Y,Y,Y,Y,N,N,N,N,N,N,N,N,N,N,N]) (by kernel_rfl) (fun _ _ _ _ h=>h) R (Jb (K:=kTag) (ja R) fa_73_0 sub_Tag_0) ?_
          refine AtH.take [0,1] hgd 5 R R R R (D':=#[Y,Y,Y,Y,Y,Y,N,N,N,N,N,N,N,N,N,N]) (by kernel_rfl) (fun _ _ _ _ h=>h) R (vo (K:=kStr) (ja R) ty_9) ?_
          refine AtH.take [0,1] hgd 6 R R R R (D':=#[Y,Y,Y,Y,Y,Y,Y,N,N,N,N,N,N,N,N,N]) (by kernel_rfl) (fun _ _ _ _ h=>h) R (does_len_str (ja R) Tryz.underlying9) ?_
          refine AtH.take [0,1] hgd 7 R R R R (D':=#[Y,Y,Y,Y,Y,Y,Y,Y,N,N,N,N,N,N,N,N]) (by kernel_rfl) (fun _ _ _ _ h=>h) R (je (ja R) fa_59_4) ?_
          refine AtH.take [0,1] hgd 8 R R R R (D':=#[Y,Y,Y,Y,Y,Y,Y,Y,Y,N,N,N,N,N,N,N]) (by kernel_rfl) (fun _ _ _ _ h=>h) R (jc (ja R) 1 R sub_Object_4 ty_57) ?_
          refine AtH.take [0,1] hgd 9 R R R R (D':=#[Y,Y,Y,Y,Y,Y,Y,Y,Y,Y,N,N,N,N,N,N]) (by kernel_rfl) (fun _ _ _ _ h=>h) R (jb (x:=(.tv (kInt .i64) k36)) (ja R)) ?_
          refine AtH.take [0,1] hgd 10 R R R R (D':=#[Y,Y,Y,Y,Y,Y,Y,Y,Y,Y,Y,N,N,N,N,N]) (by kernel_rfl) (fun _ _ _ _ h=>h) R (vd zTag (ja R) (ja R) Tryz.underlying57 ty_73 hq31) ?_
          refine AtH.take [0,1] hgd 11 R R R R (D':=#[Y,Y,Y,Y,Y,Y,Y,Y,Y,Y,Y,Y,N,N,N,N]) (by kernel_rfl) (fun _ _ _ _ h=>h) R (Jb (K:=kTag) (ja R) fa_73_1 sub_Tag_1) ?_
          refine AtH.take [0,1] hgd 12 R R R R (D':=#[Y,Y,Y,Y,Y,Y,Y,Y,Y,Y,Y,Y,Y,N,N,N]) (by kernel_rfl) (fun _ _ _ _ h=>h) R (vo (K:=kStr) (ja R) ty_9) ?_
          refine AtH.take [0,1] hgd 13 R R R R (D':=#[Y,Y,Y,Y,Y,Y,Y,Y,Y,Y,Y,Y,Y,Y,N,N]) (by kernel_rfl) (fun _ _ _ _ h=>h) R (does_len_str (ja R) Tryz.underlying9) ?_
          refine AtH.take [0,1] hgd 14 R R R R (D':=#[Y,Y,Y,Y,Y,Y,Y,Y,Y,Y,Y,Y,Y,Y,Y,N]) (by kernel_rfl) (fun _ _ _ _ h=>h) R (jk (ja R) (ja R) jz) ?_
          refine AtH.take [0,1] hgd 15 R R R R (D':=#[Y,Y,Y,Y,Y,Y,Y,Y,Y,Y,Y,Y,Y,Y,Y,Y]) (by kernel_rfl) (fun _ _ _ _ h=>h) R (jk (ja R) (ji _ _) bin_gtr) ?_
          refine AtH.done (by kernel_rfl) ?_
          refine At.vf ?_
          refine At.cond (ja R) (fun hb62=>?_) (fun hb62=>?_)
          ·replace hF:=W.ite_t hb62 hF
           refine At.seq (At.region (At.d R R R R (jd (x:=(.tv kBool false)) (jl _)) ?_))
           refine At.done (At.vf (At.ret ?_))
           refine At.q ?_
           refine At.vg (At.vg ?_)
           refine At.q ?_
           refine At.q ?_
           refine At.vg (At.vg ?_)
           refine At.q ?_
           refine At.vg ?_
           exact At.j rfl (rv_tmp rfl) [] rfl ⟨false,hF,rfl,rfl⟩
          ·replace hF:=W.ite_f hb62 hF
           refine At.skip ?_
           refine At.n ?_
           refine At.vf (At.region (At.d R R R R (jb (x:=(.tv (kInt .i64) k36)) (ja R)) ?_))
           refine At.d R R R R (jk (ja R) (ji _ _) jz) ?_
           refine At.d R R R R (jd (x:=(.tv (kInt .i64) (w64 (k36+(1:Int))))) (ja R)) ?_
           refine At.done (At.vf ?_)
           refine At.w [0,1] R [(2,(.eq (.pointer (some ⟨g1,0,none⟩)))),(5,(.tv (kInt .i64) i6)),(6,(.eq (.pointer (some ⟨g7,0,none⟩)))),(8,(.tv (kInt .i64) (w64 (k36+(1:Int)))))] ⟨R,R,R,R,trivial⟩ (At.r ⟨(w64 (k36+(1:Int))),hF,R,R⟩)
         ·replace hF:=W.ite_f hb61 hF
          refine At.exit ?_
          refine At.x (At.x ?_)
          refine At.h ?_
          refine At.n ?_
          refine At.vf ?_
          refine At.w [0] R [(2,(.eq (.pointer (some ⟨g1,0,none⟩)))),(5,(.tv (kInt .i64) i6))] ⟨R,R,trivial⟩ (At.r ⟨(),hF,R,R⟩)
     ·rintro _ _ ⟨_,hF,rfl,rfl⟩
      unfold ref13_Few.c2 at hF
      refine At.region (At.d R R R R (jb (x:=(.tv (kInt .i64) i6)) (ja R)) ?_)
      refine At.d R R R R (jk (ja R) (ji _ _) jz) ?_
      refine At.d R R R R (jd (x:=(.tv (kInt .i64) (w64 (i6+(1:Int))))) (ja R)) ?_
      refine At.done (At.vf ?_)
      refine At.w [0] R [(2,(.eq (.pointer (some ⟨g1,0,none⟩)))),(5,(.tv (kInt .i64) (w64 (i6+(1:Int)))))] ⟨R,R,trivial⟩ (At.r ⟨(w64 (i6+(1:Int))),hF,R,R⟩)
    ·replace hF:=W.ite_f hb42 hF
     refine At.exit ?_
     refine At.x (At.x ?_)
     refine At.h ?_
     refine At.vf ?_
     refine At.w [] R [] trivial (At.r ⟨(),hF,R,R⟩)
  ·rintro _ _ ⟨_,hF,rfl,rfl⟩
   unfold ref13_Few.c1 at hF
   refine At.seq (At.region (At.d R R R R (jd (x:=(.tv kBool true)) (jl _)) ?_))
   refine At.done (At.vf (At.ret ?_))
   exact At.j rfl (rv_tmp rfl) [] rfl ⟨true,hF,rfl,rfl⟩
end Go.Gp.Gb
end
