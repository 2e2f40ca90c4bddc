/- A part of the proof: see the last part. -/
import Derived.Test.YtfophhmfbofjiaaGreatP6x01
section
set_option linter.unusedVariables false
set_option linter.unusedSimpArgs false
set_option maxRecDepth 100000
namespace Go.Gp.Gb
open Go.Proofs
def sweep_All.c2 (x23:(List Meet)):W ((List Meet)×Int):=W.bind (slices_SortFunc_api_Meet_api_Meet__o_sweep_All_3.F x23) (fun r16=>W.ret (r16,(0:Int)))
def sweep_All.c3 (t21:Int) (A1:(List Meet)→(List sweep_item)→Int→W ((List Meet)×Int)) (x46:(List Meet)) (x47:(List sweep_item)):W ((List Meet)×Int):=A1 x46 x47 (w64 (t21+(1:Int)))
def sweep_All.c4 (r5:(List sweep_item)) (t21:Int) (K3:(List Meet)→(List sweep_item)→W ((List Meet)×Int)) (r32:(List sweep_item)) (x51:(List Meet)):W ((List Meet)×Int):=W.req ((r32.length+([(rd zsweep_item r5 t21)]:List sweep_item).length)*72≤140737488355328∧r32.length+([(rd zsweep_item r5 t21)]:List sweep_item).length≤140737488355328) (K3 x51 (r32++([(rd zsweep_item r5 t21)]:List sweep_item)))
def sweep_All.l2 (r5:(List sweep_item)) (t21:Int) (r32:(List sweep_item)) (K4:(List Meet)→W ((List Meet)×Int)) (A2:(List Meet)→Int→W ((List Meet)×Int)) (x54:(List Meet)) (t30:Int):W ((List Meet)×Int):=W.ite (decide (t30<(r32.length:Int))) (W.req (0≤t30∧t30<(r32.length:Int)) (W.req (0≤t30∧t30<(r32.length:Int)) (W.bind (sweep_bounds_int_meets.F ((rd zsweep_item r5 t21).y) ((rd zsweep_item r32 t30).y)) (fun r41=>W.ite (!r41) (A2 x54 (w64 (t30+(1:Int)))) (W.bind (geom_Meets.F ((rd zsweep_item r5 t21).s) ((rd zsweep_item r32 t30).s)) (fun r42=>W.ite (r42 != (0:Int)) (W.req ((x54.length+([(⟨(if ((rd zsweep_item r32 t30).index)<((rd zsweep_item r5 t21).index) then ((rd zsweep_item r32 t30).index) else ((rd zsweep_item r5 t21).index)),(if ((rd zsweep_item r5 t21).index)<((rd zsweep_item r32 t30).index) then ((rd zsweep_item r32 t30).index) else ((rd zsweep_item r5 t21).index)),r42⟩:Meet)]:List Meet).length)*24≤140737488355328∧x54.length+([(⟨(if ((rd zsweep_item r32 t30).index)<((rd zsweep_item r5 t21).index) then ((rd zsweep_item r32 t30).index) else ((rd zsweep_item r5 t21).index)),(if ((rd zsweep_item r5 t21).index)<((rd zsweep_item r32 t30).index) then ((rd zsweep_item r32 t30).index) else ((rd zsweep_item r5 t21).index)),r42⟩:Meet)]:List Meet).length≤140737488355328) (A2 (x54++([(⟨(if ((rd zsweep_item r32 t30).index)<((rd zsweep_item r5 t21).index) then ((rd zsweep_item r32 t30).index) else ((rd zsweep_item r5 t21).index)),(if ((rd zsweep_item r5 t21).index)<((rd zsweep_item r32 t30).index) then ((rd zsweep_item r32 t30).index) else ((rd zsweep_item r5 t21).index)),r42⟩:Meet)]:List Meet)) (w64 (t30+(1:Int))))) (A2 x54 (w64 (t30+(1:Int)))))))))) (K4 x54)
def sweep_All.l1 (r5:(List sweep_item)) (K2:(List Meet)→W ((List Meet)×Int)) (A1:(List Meet)→(List sweep_item)→Int→W ((List Meet)×Int)) (x40:(List Meet)) (x41:(List sweep_item)) (t21:Int):W ((List Meet)×Int):=W.ite (decide (t21<(r5.length:Int))) (W.req (0≤t21∧t21<(r5.length:Int)) (W.req (0≤t21∧t21<(r5.length:Int)) (W.bind (vh.F x41 (rd zsweep_item r5 t21)) (fun r32=>W.ex fun n=>W.iter2 (sweep_All.l2 r5 t21 r32 (sweep_All.c4 r5 t21 (sweep_All.c3 t21 A1) r32)) n x40 (0:Int))))) (K2 x40)
def sweep_All.c1 (x4:(List sweep_item)):W ((List Meet)×Int):=W.bind (slices_SortFunc_sweep_item_sweep_item__o_sweep_All_1.F x4) (fun r5=>W.ex fun n=>W.iter3 (sweep_All.l1 r5 (sweep_All.c2)) n ([]:List Meet) ([]:List sweep_item) (0:Int))
def sweep_All.l3 (l1:(List Segment)) (K1:(List sweep_item)→W ((List Meet)×Int)) (A3:(List sweep_item)→Int→W ((List Meet)×Int)) (x57:(List sweep_item)) (t33:Int):W ((List Meet)×Int):=W.ite (decide (t33<(l1.length:Int))) (W.req (0≤t33∧t33<(l1.length:Int)) (W.bind (sweep_of_int.F ((rd zSegment l1 t33).A.X) ((rd zSegment l1 t33).B.X)) (fun r47=>W.bind (sweep_of_int.F ((rd zSegment l1 t33).A.Y) ((rd zSegment l1 t33).B.Y)) (fun r48=>W.req (0≤t33∧t33<(x57.length:Int)) (A3 (x57.set t33.toNat (⟨t33,(rd zSegment l1 t33),r47,r48⟩:sweep_item)) (w64 (t33+(1:Int)))))))) (K1 x57)
def sweep_All.F (l1:(List Segment)):W ((List Meet)×Int):=W.ite (decide ((20000:Int)<(l1.length:Int))) (W.ret (([]:List Meet),(2:Int))) (W.req (0≤(l1.length:Int)∧(l1.length:Int)*72≤140737488355328∧(l1.length:Int)≤140737488355328) (W.ex fun n=>W.iter2 (sweep_All.l3 l1 (sweep_All.c1)) n (List.replicate (l1.length:Int).toNat zsweep_item) (0:Int)))
theorem sweep_All.ok {l1:(List Segment)} {Q:((List Meet)×Int)→Prop} (hF:sweep_All.F l1 Q):Con Tryz.prog 70 [.tv (kSlice kSegment) l1] [] (fun ta rs'=>∃ (r:((List Meet)×Int)) (u0:Value),Q r∧ta=.tup2 (.eq u0) (.tv (kInt .i64) r.2)∧rs'=[.row u0 125 kMeet r.1]):=by
 refine Con.i Tryz.func70 Tryz.ntmps70 R R (fun C=>?_)
 unfold sweep_All.F at hF
 refine At.seq (At.region (At.d R R R R (jd (x:=(.eq (.slice none 0 0))) (opd_eq _)) ?_))
 refine At.d R R R R (jd (x:=(.tv (kInt .i64) (0:Int))) (ji _ _)) ?_
 refine At.done (At.jy (At.seq (At.seq (At.region (At.d R R R R (jb (x:=(.tv (kSlice kSegment) l1)) (ja R)) ?_)))))
 refine At.d R R R R (jr (ja R) Tryz.underlying27) ?_
 refine At.d R R R R (jj (ja R) (ji _ _) bin_gtr) ?_
 refine At.done (At.jy ?_)
 refine At.cond (ja R) (fun hb1=>?_) (fun hb1=>?_)
 ·replace hF:=W.ite_t hb1 hF
  refine At.seq (At.region (At.d R R R R (jd (x:=(.eq (.slice none 0 0))) (opd_eq _)) ?_))
  refine At.d R R R R (jd (x:=(.tv (kInt .i64) (2:Int))) (ji _ _)) ?_
  refine At.done (At.jy (At.ret (At.jz ?_)))
  refine At.nilrow 125 kMeet ?_
  exact At.ret_2 rfl (rv_tmp rfl) (rv_tmp rfl) [0] rfl ⟨(([]:List Meet),(2:Int)),_,hF,rfl,rfl⟩
 ·replace hF:=W.ite_f hb1 hF
  refine At.skip (At.jy (At.seq (At.region (At.d R R R R (jb (x:=(.tv (kSlice kSegment) l1)) (ja R)) ?_))))
  refine At.d R R R R (jr (ja R) Tryz.underlying27) ?_
  obtain ⟨hq1,hF⟩:=hF
  refine At.f R (eff_makeN R R R sl_151 tz_156 (ja R) (ja R) hq1) ?_
  rintro _ _ ⟨v1,rfl,rfl⟩
  refine At.d R R R R (jd (x:=(.eq v1)) (ja R)) ?_
  refine At.done (At.jy ?_)
  refine At.cut (fun rs L=>∃ (x4:(List sweep_item)),sweep_All.c1 x4 Q∧rs=[.row v1 156 ksweep_item x4]∧L=mkL [(4,(.eq v1))]) ?_ ?_
  ·refine At.seq (At.region (At.d R R R R (jb (x:=(.tv (kSlice kSegment) l1)) (ja R)) ?_))
   refine At.d R R R R (jr (ja R) Tryz.underlying27) ?_
   refine At.d R R R R (jb (x:=(.tv (kInt .i64) (0:Int))) (ji _ _)) ?_
   refine At.done (At.jy (At.block ?_))
   obtain ⟨n3,hF⟩:=hF
   refine At.w [0] R [(4,(.eq v1)),(20,(.tv (kSlice kSegment) l1)),(21,(.tv (kInt .i64) (l1.length:Int))),(22,(.tv (kInt .i64) (0:Int)))] ⟨R,R,R,R,trivial⟩ ?_
   refine At.loop (fun m rs L=>∃ (x57:(List sweep_item)) (t33:Int),W.iter2 (sweep_All.l3 l1 (sweep_All.c1)) m x57 t33 Q∧rs=[.row v1 156 ksweep_item x57]∧L=mkL [(4,(.eq v1)),(20,(.tv (kSlice kSegment) l1)),(21,(.tv (kInt .i64) (l1.length:Int))),(22,(.tv (kInt .i64) t33))]) ?_ ?_ (m:=n3) ⟨(List.replicate (l1.length:Int).toNat zsweep_item),(0:Int),hF,R,R⟩
   ·rintro rs L ⟨_,_,hF,_,_⟩;exact hF
   ·rintro m3 _ _ ⟨x57,t33,hF,rfl,rfl⟩
    replace hF:=W.iter2_s hF
    unfold sweep_All.l3 at hF
    refine At.seq (At.region (At.d R R R R (jj (ja R) (ja R) jw) ?_))
    refine At.done (At.jy (At.seq ?_))
    refine At.cond (ja R) (fun hb56=>?_) (fun hb56=>?_)
    ·replace hF:=W.ite_t hb56 hF
     refine At.skip (At.jy (At.seq (At.block (At.seq (At.region (At.d R R R R (jb (x:=(.tv (kInt .i64) t33)) (ja R)) ?_))))))
     obtain ⟨hq73,hF⟩:=hF
     refine At.d R R R R (jx zSegment (ja R) (ja R) Tryz.underlying27 ty_39 hq73) ?_
     refine At.d R R R R (vi (K:=kSegment) (ja R) ty_39) ?_
     refine At.f R (eff_alloc R R R tz_39) ?_
     rintro _ _ ⟨g26,rfl,rfl⟩
     refine At.d R R R R (jd (x:=(.tv (kInt .i64) t33)) (ja R)) ?_
     refine At.f R (ju R R (ja R) 0 R (Sub.self kSegment) ty_39 (ja R)) ?_
     rintro _ _ ⟨rfl,rfl⟩
     refine At.done (At.jy ?_)
     refine At.draw mixed [0,1] R [[],[20]] (fun φ w hgd=>?_)
     replace hF:=W.ve hF
     refine AtH.take [0,1] hgd 0 R R R R (D':=#[Y,N,N,N,N,N,N,N,N,N,N,N,N,N,N,N,N,N,N,N,N]) (by kernel_rfl) (fun _ _ _ _ h=>h) R (jb (x:=(.eq v1)) (ja R)) ?_
     refine AtH.take [0,1] hgd 1 R R R R (D':=#[Y,Y,N,N,N,N,N,N,N,N,N,N,N,N,N,N,N,N,N,N,N]) (by kernel_rfl) (fun _ _ _ _ h=>h) R (jb (x:=(.tv (kInt .i64) t33)) (ja R)) ?_
     refine AtH.take [0,1] hgd 2 R R R R (D':=#[Y,Y,Y,N,N,N,N,N,N,N,N,N,N,N,N,N,N,N,N,N,N]) (by kernel_rfl) (fun _ _ _ _ h=>h) R (jb (x:=(.tv (kInt .i64) t33)) (ja R)) ?_
     refine AtH.take [0,1] hgd 3 R R R R (D':=#[Y,Y,Y,Y,N,N,N,N,N,N,N,N,N,N,N,N,N,N,N,N,N]) (by kernel_rfl) (fun _ _ _ _ h=>h) R (jc (ja R) 0 R (Sub.self kSegment) ty_39) ?_
     refine AtH.take [0,1] hgd 4 R R R R (D':=#[Y,Y,Y,Y,Y,N,N,N,N,N,N,N,N,N,N,N,N,N,N,N,N]) (by kernel_rfl) (fun _ _ _ _ h=>h) R (je (ja R) fa_39_0) ?_
     refine AtH.take [0,1] hgd 5 R R R R (D':=#[Y,Y,Y,Y,Y,Y,N,N,N,N,N,N,N,N,N,N,N,N,N,N,N]) (by kernel_rfl) (fun _ _ _ _ h=>h) R (je (ja R) fa_37_0) ?_
     refine AtH.take [0,1] hgd 6 R R R R (D':=#[Y,Y,Y,Y,Y,Y,Y,N,N,N,N,N,N,N,N,N,N,N,N,N,N]) (by kernel_rfl) (fun _ _ _ _ h=>h) R (jc (ja R) 0 R sub_Segment_0_0 ty_3) ?_
     refine AtH.take [0,1] hgd 7 R R R R (D':=#[Y,Y,Y,Y,Y,Y,Y,Y,N,N,N,N,N,N,N,N,N,N,N,N,N]) (by kernel_rfl) (fun _ _ _ _ h=>h) R (je (ja R) fa_39_1) ?_
     refine AtH.take [0,1] hgd 8 R R R R (D':=#[Y,Y,Y,Y,Y,Y,Y,Y,Y,N,N,N,N,N,N,N,N,N,N,N,N]) (by kernel_rfl) (fun _ _ _ _ h=>h) R (je (ja R) fa_37_0) ?_
     refine AtH.take [0,1] hgd 9 R R R R (D':=#[Y,Y,Y,Y,Y,Y,Y,Y,Y,Y,N,N,N,N,N,N,N,N,N,N,N]) (by kernel_rfl) (fun _ _ _ _ h=>h) R (jc (ja R) 0 R sub_Segment_1_0 ty_3) ?_
     refine AtH.take [0,1] hgd 11 R R R R (D':=#[Y,Y,Y,Y,Y,Y,Y,Y,Y,Y,N,Y,N,N,N,N,N,N,N,N,N]) (by kernel_rfl) (fun _ _ _ _ h=>h) R (je (ja R) fa_39_0) ?_
     refine AtH.take [0,1] hgd 12 R R R R (D':=#[Y,Y,Y,Y,Y,Y,Y,Y,Y,Y,N,Y,Y,N,N,N,N,N,N,N,N]) (by kernel_rfl) (fun _ _ _ _ h=>h) R (je (ja R) fa_37_1) ?_
     refine AtH.take [0,1] hgd 13 R R R R (D':=#[Y,Y,Y,Y,Y,Y,Y,Y,Y,Y,N,Y,Y,Y,N,N,N,N,N,N,N]) (by kernel_rfl) (fun _ _ _ _ h=>h) R (jc (ja R) 0 R sub_Segment_0_1 ty_3) ?_
     refine AtH.take [0,1] hgd 14 R R R R (D':=#[Y,Y,Y,Y,Y,Y,Y,Y,Y,Y,N,Y,Y,Y,Y,N,N,N,N,N,N]) (by kernel_rfl) (fun _ _ _ _ h=>h) R (je (ja R) fa_39_1) ?_
     refine AtH.take [0,1] hgd 15 R R R R (D':=#[Y,Y,Y,Y,Y,Y,Y,Y,Y,Y,N,Y,Y,Y,Y,Y,N,N,N,N,N]) (by kernel_rfl) (fun _ _ _ _ h=>h) R (je (ja R) fa_37_1) ?_
     refine AtH.take [0,1] hgd 16 R R R R (D':=#[Y,Y,Y,Y,Y,Y,Y,Y,Y,Y,N,Y,Y,Y,Y,Y,Y,N,N,N,N]) (by kernel_rfl) (fun _ _ _ _ h=>h) R (jc (ja R) 0 R sub_Segment_1_1 ty_3) ?_
     refine AtH.all1 10 (by kernel_rfl) ?_
     refine AtH.f [(0,0),(1,1)] R R R R R R (jm R R jo (jp R en_103 (jf (ja R) (jf (ja R) jg))) (sweep_of_int.ok hF) (by rintro _ _ ⟨r,_,rfl,_⟩;exact (flat_tv flat_sweep_bounds_int))) (D':=#[Y,Y,Y,Y,Y,Y,Y,Y,Y,Y,Y,Y,Y,Y,Y,Y,Y,N,N,N,N]) (by kernel_rfl) (by kernel_rfl) ?_
     rintro _ _ ⟨_,_,⟨r47,hF,rfl,rfl⟩,rfl,rfl⟩
     refine ⟨_,.inr ⟨R,(flat_tv flat_sweep_bounds_int)⟩,?_⟩
     replace hF:=W.ve hF
     refine AtH.all1 17 (by kernel_rfl) ?_
     refine AtH.f [(0,0),(1,1)] R R R R R R (jm R R jo (jp R en_103 (jf (ja R) (jf (ja R) jg))) (sweep_of_int.ok hF) (by rintro _ _ ⟨r,_,rfl,_⟩;exact (flat_tv flat_sweep_bounds_int))) (D':=#[Y,Y,Y,Y,Y,Y,Y,Y,Y,Y,Y,Y,Y,Y,Y,Y,Y,Y,N,N,N]) (by kernel_rfl) (by kernel_rfl) ?_
     rintro _ _ ⟨_,_,⟨r48,hF,rfl,rfl⟩,rfl,rfl⟩
     refine ⟨_,.inr ⟨R,(flat_tv flat_sweep_bounds_int)⟩,?_⟩
     obtain ⟨hq74,hF⟩:=hF
     refine AtH.take [0,1] hgd 18 R R R R (D':=#[Y,Y,Y,Y,Y,Y,Y,Y,Y,Y,Y,Y,Y,Y,Y,Y,Y,Y,Y,N,N]) (by kernel_rfl) (fun _ _ _ _ h=>h) R (does_build (jq (ja R) (jq (ja R) (jq (ja R) (jq (ja R) parts_nil)))) zr_156 bd_156 R (fills_cons R sub_sweep_item_0 (fills_cons R sub_sweep_item_1 (fills_cons R sub_sweep_item_2 (fills_cons R sub_sweep_item_3 fills_nil))))) ?_
     refine AtH.take [0,1] hgd 19 R R R R (D':=#[Y,Y,Y,Y,Y,Y,Y,Y,Y,Y,Y,Y,Y,Y,Y,Y,Y,Y,Y,Y,N]) (by kernel_rfl) (fun _ _ _ _ h=>h) R (does_idx_row (ja R) 1 R (ja R) Tryz.underlying151 ty_156 hq74) ?_
     refine AtH.all1 20 (by kernel_rfl) ?_
     refine AtH.eff0 [(0,0)] R R R R R (eff_store_elem R R (ja R) 1 R t33 0 R zsweep_item hq74 (Sub.self ksweep_item) ty_156 (ja R)) (D':=#[Y,Y,Y,Y,Y,Y,Y,Y,Y,Y,Y,Y,Y,Y,Y,Y,Y,Y,Y,Y,Y]) (by kernel_rfl) (by kernel_rfl) ?_
     rintro _ _ ⟨rfl,rfl⟩
     refine AtH.done (by kernel_rfl) ?_
     refine At.n ?_
     refine At.jy (At.region (At.d R R R R (jj (ja R) (ji _ _) jv) ?_))
     refine At.d R R R R (jb (x:=(.tv (kInt .i64) (w64 (t33+(1:Int))))) (ja R)) ?_
     refine At.done (At.jy ?_)
     refine At.w [1] R [(4,(.eq v1)),(20,(.tv (kSlice kSegment) l1)),(21,(.tv (kInt .i64) (l1.length:Int))),(22,(.tv (kInt .i64) (w64 (t33+(1:Int)))))] ⟨R,R,R,R,trivial⟩ (At.r ⟨(x57.set t33.toNat (⟨t33,(rd zSegment l1 t33),r47,r48⟩:sweep_item)),(w64 (t33+(1:Int))),hF,R,R⟩)
    ·replace hF:=W.ite_f hb56 hF
     refine At.exit ?_
     refine At.x (At.x ?_)
     refine At.h ?_
     refine At.jy ?_
     refine At.w [0] R [(4,(.eq v1))] ⟨R,trivial⟩ (At.r ⟨x57,hF,R,R⟩)
  ·rintro _ _ ⟨x4,hF,rfl,rfl⟩
   unfold sweep_All.c1 at hF
   refine At.seq (At.region (At.d R R R R (jb (x:=(.eq v1)) (ja R)) ?_))
   replace hF:=W.ve hF
   refine At.f R (jn R R (jp R en_104 (jf (ja R) (jf (opd_fn 105) jg))) [0] R (slices_SortFunc_sweep_item_sweep_item__o_sweep_All_1.ok hF)) ?_
   rintro _ _ ⟨_,_,⟨r5,hF,rfl,rfl⟩,rfl,rfl⟩
   refine At.done (At.jy (At.seq (At.region (At.d R R R R (jd (x:=(.eq (.slice none 0 0))) (opd_eq _)) ?_))))
   refine At.done (At.jy (At.seq (At.region (At.d R R R R (jd (x:=(.eq (.slice none 0 0))) (opd_eq _)) ?_))))
   refine At.done (At.jy ?_)
   refine At.cut (fun rs L=>∃ (x23:(List Meet)) (v34:Value),sweep_All.c2 x23 Q∧rs=[.row v34 125 kMeet x23]∧L=mkL [(7,(.eq v34))]) ?_ ?_
   ·refine At.seq (At.region (At.d R R R R (jb (x:=(.eq v1)) (ja R)) ?_))
    refine At.d R R R R (does_len_row (ja R) 0 R Tryz.underlying151) ?_
    refine At.d R R R R (jb (x:=(.tv (kInt .i64) (0:Int))) (ji _ _)) ?_
    refine At.done (At.jy (At.block ?_))
    refine At.nilrow 125 kMeet ?_
    refine At.nilrow 156 ksweep_item ?_
    obtain ⟨n2,hF⟩:=hF
    refine At.w [1,0,2] R [(7,(.eq (.slice none 0 0))),(8,(.eq (.slice none 0 0))),(50,(.eq v1)),(51,(.tv (kInt .i64) (r5.length:Int))),(52,(.tv (kInt .i64) (0:Int)))] ⟨R,R,R,R,R,trivial⟩ ?_
    refine At.loop (fun m rs L=>∃ (x40:(List Meet)) (v65:Value) (x41:(List sweep_item)) (v66:Value) (t21:Int),W.iter3 (sweep_All.l1 r5 (sweep_All.c2)) m x40 x41 t21 Q∧rs=[.row v65 125 kMeet x40,.row v66 156 ksweep_item x41,.row v1 156 ksweep_item r5]∧L=mkL [(7,(.eq v65)),(8,(.eq v66)),(50,(.eq v1)),(51,(.tv (kInt .i64) (r5.length:Int))),(52,(.tv (kInt .i64) t21))]) ?_ ?_ (m:=n2) ⟨([]:List Meet),(.slice none 0 0),([]:List sweep_item),(.slice none 0 0),(0:Int),hF,R,R⟩
    ·rintro rs L ⟨_,_,_,_,_,hF,_,_⟩;exact hF
    ·rintro m1 _ _ ⟨x40,v65,x41,v66,t21,hF,rfl,rfl⟩
     replace hF:=W.iter3_s hF
     unfold sweep_All.l1 at hF
     refine At.seq (At.region (At.d R R R R (jj (ja R) (ja R) jw) ?_))
     refine At.done (At.jy (At.seq ?_))
     refine At.cond (ja R) (fun hb32=>?_) (fun hb32=>?_)
     ·replace hF:=W.ite_t hb32 hF
      refine At.skip (At.jy ?_)
      refine At.cut (fun rs L=>∃ (x46:(List Meet)) (v78:Value) (x47:(List sweep_item)) (v79:Value),sweep_All.c3 t21 (W.iter3 (sweep_All.l1 r5 (sweep_All.c2)) m1) x46 x47 Q∧rs=[.row v78 125 kMeet x46,.row v79 156 ksweep_item x47,.row v1 156 ksweep_item r5]∧L=mkL [(7,(.eq v78)),(8,(.eq v79)),(50,(.eq v1)),(51,(.tv (kInt .i64) (r5.length:Int))),(52,(.tv (kInt .i64) t21))]) ?_ ?_
      ·refine At.block (At.seq (At.region ?_))
       obtain ⟨hq51,hF⟩:=hF
       refine At.d R R R R (does_idx_row (ja R) 2 R (ja R) Tryz.underlying151 ty_156 hq51) ?_
       obtain ⟨hq52,hF⟩:=hF
       refine At.d R R R R (does_load_elem (ja R) 2 R t21 0 R zsweep_item hq52 (Sub.self ksweep_item) ty_156) ?_
       refine At.f R (eff_alloc R R R tz_156) ?_
       rintro _ _ ⟨g18,rfl,rfl⟩
       refine At.f R (ju R R (ja R) 0 R (Sub.self ksweep_item) ty_156 (ja R)) ?_
       rintro _ _ ⟨rfl,rfl⟩
       refine At.done (At.jy (At.seq (At.region (At.d R R R R (jb (x:=(.eq v66)) (ja R)) ?_))))
       refine At.d R R R R (does_cls (firsts:=[]) (caps:=[.tmp 10]) R (jf (ja R) jg)) ?_
       replace hF:=W.ve hF
       refine At.f R (jn R R (jp R en_107 (jf (ja R) (jf (ja R) jg))) [2,0] R (vh.ok hF)) ?_
       rintro _ _ ⟨_,_,⟨r32,v80,hF,rfl,rfl⟩,rfl,rfl⟩
       refine At.d R R R R (jd (x:=(.eq v80)) (ja R)) ?_
       refine At.done (At.jy ?_)
       refine At.cut (fun rs L=>∃ (x51:(List Meet)) (v88:Value),sweep_All.c4 r5 t21 (sweep_All.c3 t21 (W.iter3 (sweep_All.l1 r5 (sweep_All.c2)) m1)) r32 x51 Q∧rs=[.row v88 125 kMeet x51,.row v80 156 ksweep_item r32,.box g18 156 ksweep_item (rd zsweep_item r5 t21),.row v1 156 ksweep_item r5]∧L=mkL [(7,(.eq v88)),(8,(.eq v80)),(10,(.eq (.pointer (some ⟨g18,0,none⟩)))),(50,(.eq v1)),(51,(.tv (kInt .i64) (r5.length:Int))),(52,(.tv (kInt .i64) t21))]) ?_ ?_
       ·refine At.seq (At.region (At.d R R R R (jb (x:=(.eq v80)) (ja R)) ?_))
        refine At.d R R R R (does_len_row (ja R) 0 R Tryz.underlying151) ?_
        refine At.d R R R R (jb (x:=(.tv (kInt .i64) (0:Int))) (ji _ _)) ?_
        refine At.done (At.jy (At.block ?_))
        obtain ⟨n1,hF⟩:=hF
        refine At.w [3,0,1,5] R [(7,(.eq v65)),(8,(.eq v80)),(10,(.eq (.pointer (some ⟨g18,0,none⟩)))),(50,(.eq v1)),(51,(.tv (kInt .i64) (r5.length:Int))),(52,(.tv (kInt .i64) t21)),(59,(.eq v80)),(60,(.tv (kInt .i64) (r32.length:Int))),(61,(.tv (kInt .i64) (0:Int)))] ⟨R,R,R,R,R,R,R,R,R,trivial⟩ ?_
        refine At.loop (fun m rs L=>∃ (x54:(List Meet)) (v97:Value) (t30:Int),W.iter2 (sweep_All.l2 r5 t21 r32 (sweep_All.c4 r5 t21 (sweep_All.c3 t21 (W.iter3 (sweep_All.l1 r5 (sweep_All.c2)) m1)) r32)) m x54 t30 Q∧rs=[.row v97 125 kMeet x54,.row v80 156 ksweep_item r32,.box g18 156 ksweep_item (rd zsweep_item r5 t21),.row v1 156 ksweep_item r5]∧L=mkL [(7,(.eq v97)),(8,(.eq v80)),(10,(.eq (.pointer (some ⟨g18,0,none⟩)))),(50,(.eq v1)),(51,(.tv (kInt .i64) (r5.length:Int))),(52,(.tv (kInt .i64) t21)),(59,(.eq v80)),(60,(.tv (kInt .i64) (r32.length:Int))),(61,(.tv (kInt .i64) t30))]) ?_ ?_ (m:=n1) ⟨x40,v65,(0:Int),hF,R,R⟩
        ·rintro rs L ⟨_,_,_,hF,_,_⟩;exact hF
        ·rintro m2 _ _ ⟨x54,v97,t30,hF,rfl,rfl⟩
         replace hF:=W.iter2_s hF
         unfold sweep_All.l2 at hF
         refine At.seq (At.region (At.d R R R R (jj (ja R) (ja R) jw) ?_))
         refine At.done (At.jy (At.seq ?_))
         refine At.cond (ja R) (fun hb51=>?_) (fun hb51=>?_)
         ·replace hF:=W.ite_t hb51 hF
          refine At.skip (At.jy (At.seq (At.block (At.seq (At.region ?_)))))
          obtain ⟨hq66,hF⟩:=hF
          refine At.d R R R R (does_idx_row (ja R) 1 R (ja R) Tryz.underlying151 ty_156 hq66) ?_
          obtain ⟨hq67,hF⟩:=hF
          refine At.d R R R R (does_load_elem (ja R) 1 R t30 0 R zsweep_item hq67 (Sub.self ksweep_item) ty_156) ?_
          refine At.f R (eff_alloc R R R tz_156) ?_
          rintro _ _ ⟨g23,rfl,rfl⟩
          refine At.f R (ju R R (ja R) 0 R (Sub.self ksweep_item) ty_156 (ja R)) ?_
          rintro _ _ ⟨rfl,rfl⟩
          refine At.done (At.jy (At.seq (At.seq (At.region (At.d R R R R (je (ja R) fa_156_3) ?_)))))
          refine At.d R R R R (jc (ja R) 3 R sub_sweep_item_3 ty_153) ?_
          refine At.d R R R R (je (ja R) fa_156_3) ?_
          refine At.d R R R R (jc (ja R) 0 R sub_sweep_item_3 ty_153) ?_
          replace hF:=W.ve hF
          refine At.f R (jm R R jo (jp R en_109 (jf (ja R) (jf (ja R) jg))) (sweep_bounds_int_meets.ok hF) (by rintro _ _ ⟨r,_,rfl,_⟩;exact vd)) ?_
          rintro _ _ ⟨_,_,⟨r41,hF,rfl,rfl⟩,rfl,rfl⟩
          refine At.d R R R R (does_not (ja R)) ?_
          refine At.done (At.jy ?_)
          refine At.cond (ja R) (fun hb52=>?_) (fun hb52=>?_)
          ·replace hF:=W.ite_t hb52 hF
           refine At.exit ?_
           refine At.x ?_
           refine At.h ?_
           refine At.jy (At.region (At.d R R R R (jj (ja R) (ji _ _) jv) ?_))
           refine At.d R R R R (jb (x:=(.tv (kInt .i64) (w64 (t30+(1:Int))))) (ja R)) ?_
           refine At.done (At.jy ?_)
           refine At.w [1,2,3,4] R [(7,(.eq v97)),(8,(.eq v80)),(10,(.eq (.pointer (some ⟨g18,0,none⟩)))),(50,(.eq v1)),(51,(.tv (kInt .i64) (r5.length:Int))),(52,(.tv (kInt .i64) t21)),(59,(.eq v80)),(60,(.tv (kInt .i64) (r32.length:Int))),(61,(.tv (kInt .i64) (w64 (t30+(1:Int)))))] ⟨R,R,R,R,R,R,R,R,R,trivial⟩ (At.r ⟨x54,v97,(w64 (t30+(1:Int))),hF,R,R⟩)
          ·replace hF:=W.ite_f hb52 hF
           refine At.skip (At.jy (At.seq (At.region (At.d R R R R (je (ja R) fa_156_1) ?_))))
           refine At.d R R R R (jc (ja R) 3 R sub_sweep_item_1 ty_39) ?_
           refine At.d R R R R (je (ja R) fa_156_1) ?_
           refine At.d R R R R (jc (ja R) 0 R sub_sweep_item_1 ty_39) ?_
           replace hF:=W.ve hF
           refine At.f R (jm R R jo (jp R en_23 (jf (ja R) (jf (ja R) jg))) (geom_Meets.ok hF) (by rintro _ _ ⟨r,_,rfl,_⟩;exact flat_int)) ?_
           rintro _ _ ⟨_,_,⟨r42,hF,rfl,rfl⟩,rfl,rfl⟩
           refine At.d R R R R (jd (x:=(.tv (kInt .i64) r42)) (ja R)) ?_
           refine At.done (At.jy (At.seq (At.region (At.d R R R R (jb (x:=(.tv (kInt .i64) r42)) (ja R)) ?_))))
           refine At.d R R R R (jj (ja R) (ji _ _) bin_neq) ?_
           refine At.done (At.jy ?_)
           refine At.cond (ja R) (fun hb53=>?_) (fun hb53=>?_)
           ·replace hF:=W.ite_t hb53 hF
            refine At.region (At.d R R R R (jb (x:=(.eq v97)) (ja R)) ?_)
            refine At.d R R R R (je (ja R) fa_156_0) ?_
            refine At.d R R R R (jc (ja R) 3 R sub_sweep_item_0 ty_3) ?_
            refine At.d R R R R (je (ja R) fa_156_0) ?_
            refine At.d R R R R (jc (ja R) 0 R sub_sweep_item_0 ty_3) ?_
            refine At.d R R R R (does_min (ja R) (ja R)) ?_
            refine At.d R R R R (je (ja R) fa_156_0) ?_
            refine At.d R R R R (jc (ja R) 3 R sub_sweep_item_0 ty_3) ?_
            refine At.d R R R R (je (ja R) fa_156_0) ?_
            refine At.d R R R R (jc (ja R) 0 R sub_sweep_item_0 ty_3) ?_
            refine At.d R R R R (does_max (ja R) (ja R)) ?_
            refine At.d R R R R (jb (x:=(.tv (kInt .i64) r42)) (ja R)) ?_
            refine At.d R R R R (does_build (jq (ja R) (jq (ja R) (jq (ja R) parts_nil))) zr_125 bd_125 R (fills_cons R sub_Meet_0 (fills_cons R sub_Meet_1 (fills_cons R sub_Meet_2 fills_nil)))) ?_
            refine At.f R (eff_lit R R R (os:=[.tmp 90]) R sl_121 (xs:=([(⟨(if ((rd zsweep_item r32 t30).index)<((rd zsweep_item r5 t21).index) then ((rd zsweep_item r32 t30).index) else ((rd zsweep_item r5 t21).index)),(if ((rd zsweep_item r5 t21).index)<((rd zsweep_item r32 t30).index) then ((rd zsweep_item r32 t30).index) else ((rd zsweep_item r5 t21).index)),r42⟩:Meet)]:List Meet)) (jf (ja R) jg) R R) ?_
            rintro _ _ ⟨v98,rfl,rfl⟩
            obtain ⟨hq68,hF⟩:=hF
            refine At.f R (eff_append_row R R R 2 0 R R (ja R) (ja R) sl_121 hq68) ?_
            rintro _ _ ⟨v99,rfl,rfl⟩
            refine At.d R R R R (jd (x:=(.eq v99)) (ja R)) ?_
            refine At.done ?_
            refine At.n ?_
            refine At.jy (At.region (At.d R R R R (jj (ja R) (ji _ _) jv) ?_))
            refine At.d R R R R (jb (x:=(.tv (kInt .i64) (w64 (t30+(1:Int))))) (ja R)) ?_
            refine At.done (At.jy ?_)
            refine At.w [2,3,4,5] R [(7,(.eq v99)),(8,(.eq v80)),(10,(.eq (.pointer (some ⟨g18,0,none⟩)))),(50,(.eq v1)),(51,(.tv (kInt .i64) (r5.length:Int))),(52,(.tv (kInt .i64) t21)),(59,(.eq v80)),(60,(.tv (kInt .i64) (r32.length:Int))),(61,(.tv (kInt .i64) (w64 (t30+(1:Int)))))] ⟨R,R,R,R,R,R,R,R,R,trivial⟩ (At.r ⟨(x54++([(⟨(if ((rd zsweep_item r32 t30).index)<((rd zsweep_item r5 t21).index) then ((rd zsweep_item r32 t30).index) else ((rd zsweep_item r5 t21).index)),(if ((rd zsweep_item r5 t21).index)<((rd zsweep_item r32 t30).index) then ((rd zsweep_item r32 t30).index) else ((rd zsweep_item r5 t21).index)),r42⟩:Meet)]:List Meet)),v99,(w64 (t30+(1:Int))),hF,R,R⟩)
           ·replace hF:=W.ite_f hb53 hF
            refine At.skip ?_
            refine At.n ?_
            refine At.jy (At.region (At.d R R R R (jj (ja R) (ji _ _) jv) ?_))
            refine At.d R R R R (jb (x:=(.tv (kInt .i64) (w64 (t30+(1:Int))))) (ja R)) ?_
            refine At.done (At.jy ?_)
            refine At.w [1,2,3,4] R [(7,(.eq v97)),(8,(.eq v80)),(10,(.eq (.pointer (some ⟨g18,0,none⟩)))),(50,(.eq v1)),(51,(.tv (kInt .i64) (r5.length:Int))),(52,(.tv (kInt .i64) t21)),(59,(.eq v80)),(60,(.tv (kInt .i64) (r32.length:Int))),(61,(.tv (kInt .i64) (w64 (t30+(1:Int)))))] ⟨R,R,R,R,R,R,R,R,R,trivial⟩ (At.r ⟨x54,v97,(w64 (t30+(1:Int))),hF,R,R⟩)
         ·replace hF:=W.ite_f hb51 hF
          refine At.exit ?_
          refine At.x (At.x ?_)
          refine At.h ?_
          refine At.jy ?_
          refine At.w [0,1,2,3] R [(7,(.eq v97)),(8,(.eq v80)),(10,(.eq (.pointer (some ⟨g18,0,none⟩)))),(50,(.eq v1)),(51,(.tv (kInt .i64) (r5.length:Int))),(52,(.tv (kInt .i64) t21))] ⟨R,R,R,R,R,R,trivial⟩ (At.r ⟨x54,v97,hF,R,R⟩)
       ·rintro _ _ ⟨x51,v88,hF,rfl,rfl⟩
        unfold sweep_All.c4 at hF
        refine At.region (At.d R R R R (jb (x:=(.eq v80)) (ja R)) ?_)
        refine At.d R R R R (jc (ja R) 2 R (Sub.self ksweep_item) ty_156) ?_
        refine At.f R (eff_lit R R R (os:=[.tmp 95]) R sl_151 (xs:=([(rd zsweep_item r5 t21)]:List sweep_item)) (jf (ja R) jg) R R) ?_
        rintro _ _ ⟨v89,rfl,rfl⟩
        obtain ⟨hq59,hF⟩:=hF
        refine At.f R (eff_append_row R R R 2 0 R R (ja R) (ja R) sl_151 hq59) ?_
        rintro _ _ ⟨v90,rfl,rfl⟩
        refine At.d R R R R (jd (x:=(.eq v90)) (ja R)) ?_
        refine At.done ?_
        refine At.n ?_
        refine At.jy ?_
        refine At.w [1,2,4] R [(7,(.eq v88)),(8,(.eq v90)),(50,(.eq v1)),(51,(.tv (kInt .i64) (r5.length:Int))),(52,(.tv (kInt .i64) t21))] ⟨R,R,R,R,R,trivial⟩ (At.r ⟨x51,v88,(r32++([(rd zsweep_item r5 t21)]:List sweep_item)),v90,hF,R,R⟩)
      ·rintro _ _ ⟨x46,v78,x47,v79,hF,rfl,rfl⟩
       unfold sweep_All.c3 at hF
       refine At.region (At.d R R R R (jj (ja R) (ji _ _) jv) ?_)
       refine At.d R R R R (jb (x:=(.tv (kInt .i64) (w64 (t21+(1:Int))))) (ja R)) ?_
       refine At.done (At.jy ?_)
       refine At.w [0,1,2] R [(7,(.eq v78)),(8,(.eq v79)),(50,(.eq v1)),(51,(.tv (kInt .i64) (r5.length:Int))),(52,(.tv (kInt .i64) (w64 (t21+(1:Int)))))] ⟨R,R,R,R,R,trivial⟩ (At.r ⟨x46,v78,x47,v79,(w64 (t21+(1:Int))),hF,R,R⟩)
     ·replace hF:=W.ite_f hb32 hF
      refine At.exit ?_
      refine At.x (At.x ?_)
      refine At.h ?_
      refine At.jy ?_
      refine At.w [0] R [(7,(.eq v65))] ⟨R,trivial⟩ (At.r ⟨x40,v65,hF,R,R⟩)
   ·rintro _ _ ⟨x23,v34,hF,rfl,rfl⟩
    unfold sweep_All.c2 at hF
    refine At.seq (At.region (At.d R R R R (jb (x:=(.eq v34)) (ja R)) ?_))
    replace hF:=W.ve hF
    refine At.f R (jn R R (jp R en_110 (jf (ja R) (jf (opd_fn 111) jg))) [0] R (slices_SortFunc_api_Meet_api_Meet__o_sweep_All_3.ok hF)) ?_
    rintro _ _ ⟨_,_,⟨r16,hF,rfl,rfl⟩,rfl,rfl⟩
    refine At.done (At.jy (At.seq (At.region (At.d R R R R (jb (x:=(.eq v34)) (ja R)) ?_))))
    refine At.d R R R R (jd (x:=(.eq v34)) (ja R)) ?_
    refine At.d R R R R (jd (x:=(.tv (kInt .i64) (0:Int))) (ji _ _)) ?_
    refine At.done (At.jy (At.ret ?_))
    exact At.ret_2 rfl (rv_tmp rfl) (rv_tmp rfl) [0] rfl ⟨(r16,(0:Int)),_,hF,rfl,rfl⟩
def vg.c4 (t18:Int) (A1:(List ((Int×Int)×Int))→Int→W (List ((Int×Int)×Int))) (x33:(List ((Int×Int)×Int))):W (List ((Int×Int)×Int)):=A1 x33 (w64 (t18+(1:Int)))
def vg.l2 (all1:(List Segment)) (list1:(List Int)) (t18:Int) (K4:(List ((Int×Int)×Int))→W (List ((Int×Int)×Int))) (A2:(List ((Int×Int)×Int))→Int→W (List ((Int×Int)×Int))) (x36:(List ((Int×Int)×Int))) (t24:Int):W (List ((Int×Int)×Int)):=W.ite (decide (t24<((cut_l list1 (w64 (t18+(1:Int)))).length:Int))) (W.req (0≤t24∧t24<((cut_l list1 (w64 (t18+(1:Int)))).length:Int)) (W.req (0≤(rd (0:Int) list1 t18)∧(rd (0:Int) list1 t18)<(all1.length:Int)) (W.req (0≤(rd (0:Int) (cut_l list1 (w64 (t18+(1:Int)))) t24)∧(rd (0:Int) (cut_l list1 (w64 (t18+(1:Int)))) t24)<(all1.length:Int)) (W.bind (geom_Meets.F (rd zSegment all1 (rd (0:Int) list1 t18)) (rd zSegment all1 (rd (0:Int) (cut_l list1 (w64 (t18+(1:Int)))) t24))) (fun r12=>W.ite (r12 != (0:Int)) (A2 (mset ((rd (0:Int) list1 t18),(rd (0:Int) (cut_l list1 (w64 (t18+(1:Int)))) t24)) r12 x36) (w64 (t24+(1:Int)))) (A2 x36 (w64 (t24+(1:Int))))))))) (K4 x36)
def vg.l1 (all1:(List Segment)) (list1:(List Int)) (A1:(List ((Int×Int)×Int))→Int→W (List ((Int×Int)×Int))) (x29:(List ((Int×Int)×Int))) (t18:Int):W (List ((Int×Int)×Int)):=W.ite (decide (t18<(list1.length:Int))) (W.req (0≤t18∧t18<(list1.length:Int)) (W.req (0≤(w64 (t18+(1:Int)))∧(w64 (t18+(1:Int)))≤(list1.length:Int)) (W.ex fun n=>W.iter2 (vg.l2 all1 list1 t18 (vg.c4 t18 A1)) n x29 (0:Int)))) (W.ret x29)
def vg.c3 (self:(List Segment)→(List Int)→(List ((Int×Int)×Int))→W (List ((Int×Int)×Int))) (all1:(List Segment)) (list1:(List Int)) (found1:(List ((Int×Int)×Int))) (x17:(List Int)) (x18:(List Int)):W (List ((Int×Int)×Int)):=W.ite ((decide ((x17.length:Int)<(list1.length:Int)))&&(decide ((x18.length:Int)<(list1.length:Int)))) (W.bind (self all1 x17 found1) (fun r2=>W.bind (self all1 x18 r2) (fun r3=>W.ret r3))) (W.ex fun n=>W.iter2 (vg.l1 all1 list1) n found1 (0:Int))
def vg.c5 (all1:(List Segment)) (list1:(List Int)) (low6:Int) (high6:Int) (x44:(List Int)) (t27:Int) (A3:(List Int)→(List Int)→Int→W (List ((Int×Int)×Int))) (x45:(List Int)):W (List ((Int×Int)×Int)):=W.req (0≤(rd (0:Int) list1 t27)∧(rd (0:Int) list1 t27)<(all1.length:Int)) (W.ite (decide ((w64 (low6+(w64 (Int.tdiv (w64 (high6-low6)) (2:Int)))))<(if (((rd zSegment all1 (rd (0:Int) list1 t27)).A).X)<(((rd zSegment all1 (rd (0:Int) list1 t27)).B).X) then (((rd zSegment all1 (rd (0:Int) list1 t27)).B).X) else (((rd zSegment all1 (rd (0:Int) list1 t27)).A).X)))) (W.req ((x44.length+([(rd (0:Int) list1 t27)]:List Int).length)*8≤140737488355328∧x44.length+([(rd (0:Int) list1 t27)]:List Int).length≤140737488355328) (A3 x45 (x44++([(rd (0:Int) list1 t27)]:List Int)) (w64 (t27+(1:Int))))) (A3 x45 x44 (w64 (t27+(1:Int)))))
def vg.l3 (all1:(List Segment)) (list1:(List Int)) (low6:Int) (high6:Int) (K3:(List Int)→(List Int)→W (List ((Int×Int)×Int))) (A3:(List Int)→(List Int)→Int→W (List ((Int×Int)×Int))) (x43:(List Int)) (x44:(List Int)) (t27:Int):W (List ((Int×Int)×Int)):=W.ite (decide (t27<(list1.length:Int))) (W.req (0≤t27∧t27<(list1.length:Int)) (W.req (0≤(rd (0:Int) list1 t27)∧(rd (0:Int) list1 t27)<(all1.length:Int)) (W.ite (decide ((if (((rd zSegment all1 (rd (0:Int) list1 t27)).B).X)<(((rd zSegment all1 (rd (0:Int) list1 t27)).A).X) then (((rd zSegment all1 (rd (0:Int) list1 t27)).B).X) else (((rd zSegment all1 (rd (0:Int) list1 t27)).A).X))≤(w64 (low6+(w64 (Int.tdiv (w64 (high6-low6)) (2:Int))))))) (W.req ((x43.length+([(rd (0:Int) list1 t27)]:List Int).length)*8≤140737488355328∧x43.length+([(rd (0:Int) list1 t27)]:List Int).length≤140737488355328) ((vg.c5 all1 list1 low6 high6 x44 t27 A3) (x43++([(rd (0:Int) list1 t27)]:List Int)))) ((vg.c5 all1 list1 low6 high6 x44 t27 A3) x43)))) (K3 x43 x44)
def vg.c2 (self:(List Segment)→(List Int)→(List ((Int×Int)×Int))→W (List ((Int×Int)×Int))) (all1:(List Segment)) (list1:(List Int)) (found1:(List ((Int×Int)×Int))) (low6:Int) (high6:Int):W (List ((Int×Int)×Int)):=W.ex fun n=>W.iter3 (vg.l3 all1 list1 low6 high6 (vg.c3 self all1 list1 found1)) n ([]:List Int) ([]:List Int) (0:Int)
def vg.c6 (x49:(List ((Int×Int)×Int))):W (List ((Int×Int)×Int)):=W.ret x49
def vg.l4 (list1:(List Int)) (r13:((List Meet)×Int)) (K6:(List ((Int×Int)×Int))→W (List ((Int×Int)×Int))) (A4:(List ((Int×Int)×Int))→Int→W (List ((Int×Int)×Int))) (x52:(List ((Int×Int)×Int))) (t33:Int):W (List ((Int×Int)×Int)):=W.ite (decide (t33<(r13.1.length:Int))) (W.req (0≤t33∧t33<(r13.1.length:Int)) (W.req (0≤t33∧t33<(r13.1.length:Int)) (W.req (0≤((rd zMeet r13.1 t33).A)∧((rd zMeet r13.1 t33).A)<(list1.length:Int)) (W.req (0≤((rd zMeet r13.1 t33).B)∧((rd zMeet r13.1 t33).B)<(list1.length:Int)) (A4 (mset ((rd (0:Int) list1 ((rd zMeet r13.1 t33).A)),(rd (0:Int) list1 ((rd zMeet r13.1 t33).B))) ((rd zMeet r13.1 t33).Kind) x52) (w64 (t33+(1:Int)))))))) (K6 x52)
def vg.c1 (self:(List Segment)→(List Int)→(List ((Int×Int)×Int))→W (List ((Int×Int)×Int))) (all1:(List Segment)) (list1:(List Int)) (found1:(List ((Int×Int)×Int))) (x4:(List Segment)) (low6:Int) (high6:Int):W (List ((Int×Int)×Int)):=W.ite (decide ((x4.length:Int)≤(20000:Int))) (W.bind (sweep_All.F x4) (fun r13=>W.ex fun n=>W.iter2 (vg.l4 list1 r13 (vg.c6)) n found1 (0:Int))) ((vg.c2 self all1 list1 found1 low6 high6))
def vg.c7 (all1:(List Segment)) (list1:(List Int)) (x55:(List Segment)) (t36:Int) (A5:(List Segment)→Int→Int→Int→W (List ((Int×Int)×Int))) (low12:Int) (high12:Int):W (List ((Int×Int)×Int)):=A5 (x55++([(rd zSegment all1 (rd (0:Int) list1 t36))]:List Segment)) (iMin [low12,(rd zSegment all1 (rd (0:Int) list1 t36)).A.X,(rd zSegment all1 (rd (0:Int) list1 t36)).B.X]) (iMax [high12,(rd zSegment all1 (rd (0:Int) list1 t36)).A.X,(rd zSegment all1 (rd (0:Int) list1 t36)).B.X]) (w64 (t36+(1:Int)))
def vg.l5 (all1:(List Segment)) (list1:(List Int)) (K1:(List Segment)→Int→Int→W (List ((Int×Int)×Int))) (A5:(List Segment)→Int→Int→Int→W (List ((Int×Int)×Int))) (x55:(List Segment)) (low11:Int) (high11:Int) (t36:Int):W (List ((Int×Int)×Int)):=W.ite (decide (t36<(list1.length:Int))) (W.req (0≤t36∧t36<(list1.length:Int)) (W.req (0≤(rd (0:Int) list1 t36)∧(rd (0:Int) list1 t36)<(all1.length:Int)) (W.req ((x55.length+([(rd zSegment all1 (rd (0:Int) list1 t36))]:List Segment).length)*32≤140737488355328∧x55.length+([(rd zSegment all1 (rd (0:Int) list1 t36))]:List Segment).length≤140737488355328) (W.ite (t36==(0:Int)) ((vg.c7 all1 list1 x55 t36 A5) (if ((rd zSegment all1 (rd (0:Int) list1 t36)).B.X)<((rd zSegment all1 (rd (0:Int) list1 t36)).A.X) then ((rd zSegment all1 (rd (0:Int) list1 t36)).B.X) else ((rd zSegment all1 (rd (0:Int) list1 t36)).A.X)) (if ((rd zSegment all1 (rd (0:Int) list1 t36)).A.X)<((rd zSegment all1 (rd (0:Int) list1 t36)).B.X) then ((rd zSegment all1 (rd (0:Int) list1 t36)).B.X) else ((rd zSegment all1 (rd (0:Int) list1 t36)).A.X))) ((vg.c7 all1 list1 x55 t36 A5) low11 high11))))) (K1 x55 low11 high11)
def vg.G (self:(List Segment)→(List Int)→(List ((Int×Int)×Int))→W (List ((Int×Int)×Int))) (all1:(List Segment)) (list1:(List Int)) (found1:(List ((Int×Int)×Int))):W (List ((Int×Int)×Int)):=W.ex fun n=>W.iter4 (vg.l5 all1 list1 (vg.c1 self all1 list1 found1)) n ([]:List Segment) (0:Int) (0:Int) (0:Int)
def vg.Fn:Nat→(List Segment)→(List Int)→(List ((Int×Int)×Int))→W (List ((Int×Int)×Int))
 | 0=>fun _ _ _=>W.fail
 | n+1=>vg.G (vg.Fn n)
def vg.F (all1:(List Segment)) (list1:(List Int)) (found1:(List ((Int×Int)×Int))):W (List ((Int×Int)×Int)):=W.ex fun n=>vg.Fn n all1 list1 found1
theorem vg.okn (n:Nat):∀ {all1:(List Segment)} {list1:(List Int)} {found1:(List ((Int×Int)×Int))} {g1:Nat} {Q:(List ((Int×Int)×Int))→Prop},vg.Fn n all1 list1 found1 Q→Con Tryz.prog 37 [.tv (kSlice kSegment) all1,.tv (kSlice (kInt .i64)) list1,.eq (.map (some g1))] [.map g1 (kPair (kInt .i64) (kInt .i64)) (kInt .i64) found1] (fun ta rs'=>∃ (r:(List ((Int×Int)×Int))),Q r∧ta=.eq (.tuple #[])∧rs'=[.map g1 (kPair (kInt .i64) (kInt .i64)) (kInt .i64) r]):=by
 induction n with
 | zero=>intro all1 list1 found1 g1 Q hF;exact False.elim hF
 | succ n ih=>
  intro all1 list1 found1 g1 Q hF
  replace hF:vg.G (vg.Fn n) all1 list1 found1 Q:=hF
  refine Con.i Tryz.func37 Tryz.ntmps37 R R (fun C=>?_)
  unfold vg.G at hF
  refine At.seq (At.region (At.d R R R R (jd (x:=(.eq (.slice none 0 0))) (opd_eq _)) ?_))
  refine At.done (At.jy (At.seq (At.region (At.d R R R R (jd (x:=(.tv (kInt .i64) (0:Int))) (ji _ _)) ?_))))
  refine At.d R R R R (jd (x:=(.tv (kInt .i64) (0:Int))) (ji _ _)) ?_
  refine At.done (At.jy ?_)
  refine At.cut (fun rs L=>∃ (x4:(List Segment)) (v8:Value) (low6:Int) (high6:Int),vg.c1 (vg.Fn n) all1 list1 found1 x4 low6 high6 Q∧rs=[.map g1 (kPair (kInt .i64) (kInt .i64)) (kInt .i64) found1,.row v8 39 kSegment x4]∧L=mkL [(0,(.tv (kSlice kSegment) all1)),(1,(.tv (kSlice (kInt .i64)) list1)),(2,(.eq (.map (some g1)))),(6,(.eq v8)),(7,(.tv (kInt .i64) low6)),(8,(.tv (kInt .i64) high6))]) ?_ ?_
  ·refine At.seq (At.region (At.d R R R R (jb (x:=(.tv (kSlice (kInt .i64)) list1)) (ja R)) ?_))
   refine At.d R R R R (jr (ja R) Tryz.underlying89) ?_
   refine At.d R R R R (jb (x:=(.tv (kInt .i64) (0:Int))) (ji _ _)) ?_
   refine At.done (At.jy (At.block ?_))
   refine At.nilrow 39 kSegment ?_
   obtain ⟨n5,hF⟩:=hF
   refine At.w [1,0] R [(0,(.tv (kSlice kSegment) all1)),(1,(.tv (kSlice (kInt .i64)) list1)),(2,(.eq (.map (some g1)))),(6,(.eq (.slice none 0 0))),(7,(.tv (kInt .i64) (0:Int))),(8,(.tv (kInt .i64) (0:Int))),(26,(.tv (kSlice (kInt .i64)) list1)),(27,(.tv (kInt .i64) (list1.length:Int))),(28,(.tv (kInt .i64) (0:Int)))] ⟨R,R,R,R,R,R,R,R,R,trivial⟩ ?_
   refine At.loop (fun m rs L=>∃ (x55:(List Segment)) (v58:Value) (low11:Int) (high11:Int) (t36:Int),W.iter4 (vg.l5 all1 list1 (vg.c1 (vg.Fn n) all1 list1 found1)) m x55 low11 high11 t36 Q∧rs=[.map g1 (kPair (kInt .i64) (kInt .i64)) (kInt .i64) found1,.row v58 39 kSegment x55]∧L=mkL [(0,(.tv (kSlice kSegment) all1)),(1,(.tv (kSlice (kInt .i64)) list1)),(2,(.eq (.map (some g1)))),(6,(.eq v58)),(7,(.tv (kInt .i64) low11)),(8,(.tv (kInt .i64) high11)),(26,(.tv (kSlice (kInt .i64)) list1)),(27,(.tv (kInt .i64) (list1.length:Int))),(28,(.tv (kInt .i64) t36))]) ?_ ?_ (m:=n5) ⟨([]:List Segment),(.slice none 0 0),(0:Int),(0:Int),(0:Int),hF,R,R⟩
   ·rintro rs L ⟨_,_,_,_,_,hF,_,_⟩;exact hF
   ·rintro m5 _ _ ⟨x55,v58,low11,high11,t36,hF,rfl,rfl⟩
    replace hF:=W.iter4_s hF
    unfold vg.l5 at hF
    refine At.seq (At.region (At.d R R R R (jj (ja R) (ja R) jw) ?_))
    refine At.done (At.jy (At.seq ?_))
    refine At.cond (ja R) (fun hb56=>?_) (fun hb56=>?_)
    ·replace hF:=W.ite_t hb56 hF
     refine At.skip (At.jy (At.seq (At.block (At.seq (At.region (At.d R R R R (jb (x:=(.tv (kInt .i64) t36)) (ja R)) ?_))))))
     obtain ⟨hq103,hF⟩:=hF
     refine At.d R R R R (jx (0:Int) (ja R) (ja R) Tryz.underlying89 ty_3 hq103) ?_
     refine At.d R R R R (vi (K:=(kInt .i64)) (ja R) ty_3) ?_
     refine At.d R R R R (jd (x:=(.tv (kInt .i64) t36)) (ja R)) ?_
     refine At.d R R R R (jd (x:=(.tv (kInt .i64) (rd (0:Int) list1 t36))) (ja R)) ?_
     refine At.done (At.jy (At.seq (At.region (At.d R R R R (jb (x:=(.tv (kSlice kSegment) all1)) (ja R)) ?_))))
     refine At.d R R R R (jb (x:=(.tv (kInt .i64) (rd (0:Int) list1 t36))) (ja R)) ?_
     obtain ⟨hq104,hF⟩:=hF
     refine At.d R R R R (jx zSegment (ja R) (ja R) Tryz.underlying27 ty_39 hq104) ?_
     refine At.d R R R R (vi (K:=kSegment) (ja R) ty_39) ?_
     refine At.f R (eff_alloc R R R tz_39) ?_
     rintro _ _ ⟨g13,rfl,rfl⟩
     refine At.f R (ju R R (ja R) 0 R (Sub.self kSegment) ty_39 (ja R)) ?_
     rintro _ _ ⟨rfl,rfl⟩
     refine At.done (At.jy (At.seq (At.region (At.d R R R R (jb (x:=(.eq v58)) (ja R)) ?_))))
     refine At.d R R R R (jc (ja R) 0 R (Sub.self kSegment) ty_39) ?_
     refine At.f R (eff_lit R R R (os:=[.tmp 38]) R sl_27 (xs:=([(rd zSegment all1 (rd (0:Int) list1 t36))]:List Segment)) (jf (ja R) jg) R R) ?_
     rintro _ _ ⟨v59,rfl,rfl⟩
     obtain ⟨hq105,hF⟩:=hF
     refine At.f R (eff_append_row R R R 3 0 R R (ja R) (ja R) sl_27 hq105) ?_
     rintro _ _ ⟨v60,rfl,rfl⟩
     refine At.d R R R R (jd (x:=(.eq v60)) (ja R)) ?_
     refine At.done (At.jy ?_)
     refine At.cut (fun rs L=>∃ (low12:Int) (high12:Int),vg.c7 all1 list1 x55 t36 (W.iter4 (vg.l5 all1 list1 (vg.c1 (vg.Fn n) all1 list1 found1)) m5) low12 high12 Q∧rs=[.map g1 (kPair (kInt .i64) (kInt .i64)) (kInt .i64) found1,.row v60 39 kSegment (x55++([(rd zSegment all1 (rd (0:Int) list1 t36))]:List Segment)),.box g13 39 kSegment (rd zSegment all1 (rd (0:Int) list1 t36))]∧L=mkL [(0,(.tv (kSlice kSegment) all1)),(1,(.tv (kSlice (kInt .i64)) list1)),(2,(.eq (.map (some g1)))),(6,(.eq v60)),(7,(.tv (kInt .i64) low12)),(8,(.tv (kInt .i64) high12)),(11,(.eq (.pointer (some ⟨g13,0,none⟩)))),(26,(.tv (kSlice (kInt .i64)) list1)),(27,(.tv (kInt .i64) (list1.length:Int))),(28,(.tv (kInt .i64) t36))]) ?_ ?_
     ·refine At.seq (At.region (At.d R R R R (jb (x:=(.tv (kInt .i64) t36)) (ja R)) ?_))
      refine At.d R R R R (jj (ja R) (ji _ _) bin_eql) ?_
      refine At.done (At.jy ?_)
      refine At.cond (ja R) (fun hb58=>?_) (fun hb58=>?_)
      ·replace hF:=W.ite_t hb58 hF
       refine At.draw mixed [0,1,2,3] R [[],[],[],[]] (fun φ w hgd=>?_)
       refine AtH.take [0,1,2,3] hgd 0 R R R R (D':=#[Y,N,N,N,N,N,N,N,N,N,N,N,N,N,N,N]) (by kernel_rfl) (fun _ _ _ _ h=>h) R (je (ja R) fa_39_0) ?_
       refine AtH.take [0,1,2,3] hgd 1 R R R R (D':=#[Y,Y,N,N,N,N,N,N,N,N,N,N,N,N,N,N]) (by kernel_rfl) (fun _ _ _ _ h=>h) R (je (ja R) fa_37_0) ?_
       refine AtH.take [0,1,2,3] hgd 2 R R R R (D':=#[Y,Y,Y,N,N,N,N,N,N,N,N,N,N,N,N,N]) (by kernel_rfl) (fun _ _ _ _ h=>h) R (jc (ja R) 1 R sub_Segment_0_0 ty_3) ?_
       refine AtH.take [0,1,2,3] hgd 3 R R R R (D':=#[Y,Y,Y,Y,N,N,N,N,N,N,N,N,N,N,N,N]) (by kernel_rfl) (fun _ _ _ _ h=>h) R (je (ja R) fa_39_1) ?_
       refine AtH.take [0,1,2,3] hgd 4 R R R R (D':=#[Y,Y,Y,Y,Y,N,N,N,N,N,N,N,N,N,N,N]) (by kernel_rfl) (fun _ _ _ _ h=>h) R (je (ja R) fa_37_0) ?_
       refine AtH.take [0,1,2,3] hgd 5 R R R R (D':=#[Y,Y,Y,Y,Y,Y,N,N,N,N,N,N,N,N,N,N]) (by kernel_rfl) (fun _ _ _ _ h=>h) R (jc (ja R) 1 R sub_Segment_1_0 ty_3) ?_
       refine AtH.take [0,1,2,3] hgd 6 R R R R (D':=#[Y,Y,Y,Y,Y,Y,Y,N,N,N,N,N,N,N,N,N]) (by kernel_rfl) (fun _ _ _ _ h=>h) R (does_min (ja R) (ja R)) ?_
       refine AtH.take [0,1,2,3] hgd 7 R R R R (D':=#[Y,Y,Y,Y,Y,Y,Y,Y,N,N,N,N,N,N,N,N]) (by kernel_rfl) (fun _ _ _ _ h=>h) R (je (ja R) fa_39_0) ?_
       refine AtH.take [0,1,2,3] hgd 8 R R R R (D':=#[Y,Y,Y,Y,Y,Y,Y,Y,Y,N,N,N,N,N,N,N]) (by kernel_rfl) (fun _ _ _ _ h=>h) R (je (ja R) fa_37_0) ?_
       refine AtH.take [0,1,2,3] hgd 9 R R R R (D':=#[Y,Y,Y,Y,Y,Y,Y,Y,Y,Y,N,N,N,N,N,N]) (by kernel_rfl) (fun _ _ _ _ h=>h) R (jc (ja R) 1 R sub_Segment_0_0 ty_3) ?_
       refine AtH.take [0,1,2,3] hgd 10 R R R R (D':=#[Y,Y,Y,Y,Y,Y,Y,Y,Y,Y,Y,N,N,N,N,N]) (by kernel_rfl) (fun _ _ _ _ h=>h) R (je (ja R) fa_39_1) ?_
       refine AtH.take [0,1,2,3] hgd 11 R R R R (D':=#[Y,Y,Y,Y,Y,Y,Y,Y,Y,Y,Y,Y,N,N,N,N]) (by kernel_rfl) (fun _ _ _ _ h=>h) R (je (ja R) fa_37_0) ?_
       refine AtH.take [0,1,2,3] hgd 12 R R R R (D':=#[Y,Y,Y,Y,Y,Y,Y,Y,Y,Y,Y,Y,Y,N,N,N]) (by kernel_rfl) (fun _ _ _ _ h=>h) R (jc (ja R) 1 R sub_Segment_1_0 ty_3) ?_
       refine AtH.take [0,1,2,3] hgd 13 R R R R (D':=#[Y,Y,Y,Y,Y,Y,Y,Y,Y,Y,Y,Y,Y,Y,N,N]) (by kernel_rfl) (fun _ _ _ _ h=>h) R (does_max (ja R) (ja R)) ?_
       refine AtH.take [0,1,2,3] hgd 14 R R R R (D':=#[Y,Y,Y,Y,Y,Y,Y,Y,Y,Y,Y,Y,Y,Y,Y,N]) (by kernel_rfl) (fun _ _ _ _ h=>h) R (jd (x:=(.tv (kInt .i64) (if ((rd zSegment all1 (rd (0:Int) list1 t36)).B.X)<((rd zSegment all1 (rd (0:Int) list1 t36)).A.X) then ((rd zSegment all1 (rd (0:Int) list1 t36)).B.X) else ((rd zSegment all1 (rd (0:Int) list1 t36)).A.X)))) (ja R)) ?_
       refine AtH.take [0,1,2,3] hgd 15 R R R R (D':=#[Y,Y,Y,Y,Y,Y,Y,Y,Y,Y,Y,Y,Y,Y,Y,Y]) (by kernel_rfl) (fun _ _ _ _ h=>h) R (jd (x:=(.tv (kInt .i64) (if ((rd zSegment all1 (rd (0:Int) list1 t36)).A.X)<((rd zSegment all1 (rd (0:Int) list1 t36)).B.X) then ((rd zSegment all1 (rd (0:Int) list1 t36)).B.X) else ((rd zSegment all1 (rd (0:Int) list1 t36)).A.X)))) (ja R)) ?_
       refine AtH.done (by kernel_rfl) ?_
       refine At.jy ?_
       refine At.w [2,3,1] R [(0,(.tv (kSlice kSegment) all1)),(1,(.tv (kSlice (kInt .i64)) list1)),(2,(.eq (.map (some g1)))),(6,(.eq v60)),(7,(.tv (kInt .i64) (if ((rd zSegment all1 (rd (0:Int) list1 t36)).B.X)<((rd zSegment all1 (rd (0:Int) list1 t36)).A.X) then ((rd zSegment all1 (rd (0:Int) list1 t36)).B.X) else ((rd zSegment all1 (rd (0:Int) list1 t36)).A.X)))),(8,(.tv (kInt .i64) (if ((rd zSegment all1 (rd (0:Int) list1 t36)).A.X)<((rd zSegment all1 (rd (0:Int) list1 t36)).B.X) then ((rd zSegment all1 (rd (0:Int) list1 t36)).B.X) else ((rd zSegment all1 (rd (0:Int) list1 t36)).A.X)))),(11,(.eq (.pointer (some ⟨g13,0,none⟩)))),(26,(.tv (kSlice (kInt .i64)) list1)),(27,(.tv (kInt .i64) (list1.length:Int))),(28,(.tv (kInt .i64) t36))] ⟨R,R,R,R,R,R,R,R,R,R,trivial⟩ (At.r ⟨(if ((rd zSegment all1 (rd (0:Int) list1 t36)).B.X)<((rd zSegment all1 (rd (0:Int) list1 t36)).A.X) then ((rd zSegment all1 (rd (0:Int) list1 t36)).B.X) else ((rd zSegment all1 (rd (0:Int) list1 t36)).A.X)),(if ((rd zSegment all1 (rd (0:Int) list1 t36)).A.X)<((rd zSegment all1 (rd (0:Int) list1 t36)).B.X) then ((rd zSegment all1 (rd (0:Int) list1 t36)).B.X) else ((rd zSegment all1 (rd (0:Int) list1 t36)).A.X)),hF,R,R⟩)
      ·replace hF:=W.ite_f hb58 hF
       refine At.skip (At.jy ?_)
       refine At.w [2,3,1] R [(0,(.tv (kSlice kSegment) all1)),(1,(.tv (kSlice (kInt .i64)) list1)),(2,(.eq (.map (some g1)))),(6,(.eq v60)),(7,(.tv (kInt .i64) low11)),(8,(.tv (kInt .i64) high11)),(11,(.eq (.pointer (some ⟨g13,0,none⟩)))),(26,(.tv (kSlice (kInt .i64)) list1)),(27,(.tv (kInt .i64) (list1.length:Int))),(28,(.tv (kInt .i64) t36))] ⟨R,R,R,R,R,R,R,R,R,R,trivial⟩ (At.r ⟨low11,high11,hF,R,R⟩)
     ·rintro _ _ ⟨low12,high12,hF,rfl,rfl⟩
      unfold vg.c7 at hF
      refine At.draw mixed [0,1,2] R [[],[],[]] (fun φ w hgd=>?_)
      refine AtH.take [0,1,2] hgd 0 R R R R (D':=#[Y,N,N,N,N,N,N,N,N,N,N,N,N,N,N,N,N,N]) (by kernel_rfl) (fun _ _ _ _ h=>h) R (jb (x:=(.tv (kInt .i64) low12)) (ja R)) ?_
      refine AtH.take [0,1,2] hgd 1 R R R R (D':=#[Y,Y,N,N,N,N,N,N,N,N,N,N,N,N,N,N,N,N]) (by kernel_rfl) (fun _ _ _ _ h=>h) R (je (ja R) fa_39_0) ?_
      refine AtH.take [0,1,2] hgd 2 R R R R (D':=#[Y,Y,Y,N,N,N,N,N,N,N,N,N,N,N,N,N,N,N]) (by kernel_rfl) (fun _ _ _ _ h=>h) R (je (ja R) fa_37_0) ?_
      refine AtH.take [0,1,2] hgd 3 R R R R (D':=#[Y,Y,Y,Y,N,N,N,N,N,N,N,N,N,N,N,N,N,N]) (by kernel_rfl) (fun _ _ _ _ h=>h) R (jc (ja R) 2 R sub_Segment_0_0 ty_3) ?_
      refine AtH.take [0,1,2] hgd 4 R R R R (D':=#[Y,Y,Y,Y,Y,N,N,N,N,N,N,N,N,N,N,N,N,N]) (by kernel_rfl) (fun _ _ _ _ h=>h) R (je (ja R) fa_39_1) ?_
      refine AtH.take [0,1,2] hgd 5 R R R R (D':=#[Y,Y,Y,Y,Y,Y,N,N,N,N,N,N,N,N,N,N,N,N]) (by kernel_rfl) (fun _ _ _ _ h=>h) R (je (ja R) fa_37_0) ?_
      refine AtH.take [0,1,2] hgd 6 R R R R (D':=#[Y,Y,Y,Y,Y,Y,Y,N,N,N,N,N,N,N,N,N,N,N]) (by kernel_rfl) (fun _ _ _ _ h=>h) R (jc (ja R) 2 R sub_Segment_1_0 ty_3) ?_
      refine AtH.take [0,1,2] hgd 7 R R R R (D':=#[Y,Y,Y,Y,Y,Y,Y,Y,N,N,N,N,N,N,N,N,N,N]) (by kernel_rfl) (fun _ _ _ _ h=>h) R (does_mins (n:=low12) (ns:=[(rd zSegment all1 (rd (0:Int) list1 t36)).A.X,(rd zSegment all1 (rd (0:Int) list1 t36)).B.X]) (jf (ja R) (jf (ja R) (jf (ja R) jg)))) ?_
      refine AtH.take [0,1,2] hgd 8 R R R R (D':=#[Y,Y,Y,Y,Y,Y,Y,Y,Y,N,N,N,N,N,N,N,N,N]) (by kernel_rfl) (fun _ _ _ _ h=>h) R (jb (x:=(.tv (kInt .i64) high12)) (ja R)) ?_
      refine AtH.take [0,1,2] hgd 9 R R R R (D':=#[Y,Y,Y,Y,Y,Y,Y,Y,Y,Y,N,N,N,N,N,N,N,N]) (by kernel_rfl) (fun _ _ _ _ h=>h) R (je (ja R) fa_39_0) ?_
      refine AtH.take [0,1,2] hgd 10 R R R R (D':=#[Y,Y,Y,Y,Y,Y,Y,Y,Y,Y,Y,N,N,N,N,N,N,N]) (by kernel_rfl) (fun _ _ _ _ h=>h) R (je (ja R) fa_37_0) ?_
      refine AtH.take [0,1,2] hgd 11 R R R R (D':=#[Y,Y,Y,Y,Y,Y,Y,Y,Y,Y,Y,Y,N,N,N,N,N,N]) (by kernel_rfl) (fun _ _ _ _ h=>h) R (jc (ja R) 2 R sub_Segment_0_0 ty_3) ?_
      refine AtH.take [0,1,2] hgd 12 R R R R (D':=#[Y,Y,Y,Y,Y,Y,Y,Y,Y,Y,Y,Y,Y,N,N,N,N,N]) (by kernel_rfl) (fun _ _ _ _ h=>h) R (je (ja R) fa_39_1) ?_
      refine AtH.take [0,1,2] hgd 13 R R R R (D':=#[Y,Y,Y,Y,Y,Y,Y,Y,Y,Y,Y,Y,Y,Y,N,N,N,N]) (by kernel_rfl) (fun _ _ _ _ h=>h) R (je (ja R) fa_37_0) ?_
      refine AtH.take [0,1,2] hgd 14 R R R R (D':=#[Y,Y,Y,Y,Y,Y,Y,Y,Y,Y,Y,Y,Y,Y,Y,N,N,N]) (by kernel_rfl) (fun _ _ _ _ h=>h) R (jc (ja R) 2 R sub_Segment_1_0 ty_3) ?_
      refine AtH.take [0,1,2] hgd 15 R R R R (D':=#[Y,Y,Y,Y,Y,Y,Y,Y,Y,Y,Y,Y,Y,Y,Y,Y,N,N]) (by kernel_rfl) (fun _ _ _ _ h=>h) R (does_maxs (n:=high12) (ns:=[(rd zSegment all1 (rd (0:Int) list1 t36)).A.X,(rd zSegment all1 (rd (0:Int) list1 t36)).B.X]) (jf (ja R) (jf (ja R) (jf (ja R) jg)))) ?_
      refine AtH.take [0,1,2] hgd 16 R R R R (D':=#[Y,Y,Y,Y,Y,Y,Y,Y,Y,Y,Y,Y,Y,Y,Y,Y,Y,N]) (by kernel_rfl) (fun _ _ _ _ h=>h) R (jd (x:=(.tv (kInt .i64) (iMin [low12,(rd zSegment all1 (rd (0:Int) list1 t36)).A.X,(rd zSegment all1 (rd (0:Int) list1 t36)).B.X]))) (ja R)) ?_
      refine AtH.take [0,1,2] hgd 17 R R R R (D':=#[Y,Y,Y,Y,Y,Y,Y,Y,Y,Y,Y,Y,Y,Y,Y,Y,Y,Y]) (by kernel_rfl) (fun _ _ _ _ h=>h) R (jd (x:=(.tv (kInt .i64) (iMax [high12,(rd zSegment all1 (rd (0:Int) list1 t36)).A.X,(rd zSegment all1 (rd (0:Int) list1 t36)).B.X]))) (ja R)) ?_
      refine AtH.done (by kernel_rfl) ?_
      refine At.n ?_
      refine At.jy (At.region (At.d R R R R (jj (ja R) (ji _ _) jv) ?_))
      refine At.d R R R R (jb (x:=(.tv (kInt .i64) (w64 (t36+(1:Int))))) (ja R)) ?_
      refine At.done (At.jy ?_)
      refine At.w [0,1] R [(0,(.tv (kSlice kSegment) all1)),(1,(.tv (kSlice (kInt .i64)) list1)),(2,(.eq (.map (some g1)))),(6,(.eq v60)),(7,(.tv (kInt .i64) (iMin [low12,(rd zSegment all1 (rd (0:Int) list1 t36)).A.X,(rd zSegment all1 (rd (0:Int) list1 t36)).B.X]))),(8,(.tv (kInt .i64) (iMax [high12,(rd zSegment all1 (rd (0:Int) list1 t36)).A.X,(rd zSegment all1 (rd (0:Int) list1 t36)).B.X]))),(26,(.tv (kSlice (kInt .i64)) list1)),(27,(.tv (kInt .i64) (list1.length:Int))),(28,(.tv (kInt .i64) (w64 (t36+(1:Int)))))] ⟨R,R,R,R,R,R,R,R,R,trivial⟩ (At.r ⟨(x55++([(rd zSegment all1 (rd (0:Int) list1 t36))]:List Segment)),v60,(iMin [low12,(rd zSegment all1 (rd (0:Int) list1 t36)).A.X,(rd zSegment all1 (rd (0:Int) list1 t36)).B.X]),(iMax [high12,(rd zSegment all1 (rd (0:Int) list1 t36)).A.X,(rd zSegment all1 (rd (0:Int) list1 t36)).B.X]),(w64 (t36+(1:Int))),hF,R,R⟩)
    ·replace hF:=W.ite_f hb56 hF
     refine At.exit ?_
     refine At.x (At.x ?_)
     refine At.h ?_
     refine At.jy ?_
     refine At.w [0,1] R [(0,(.tv (kSlice kSegment) all1)),(1,(.tv (kSlice (kInt .i64)) list1)),(2,(.eq (.map (some g1)))),(6,(.eq v58)),(7,(.tv (kInt .i64) low11)),(8,(.tv (kInt .i64) high11))] ⟨R,R,R,R,R,R,trivial⟩ (At.r ⟨x55,v58,low11,high11,hF,R,R⟩)
  ·rintro _ _ ⟨x4,v8,low6,high6,hF,rfl,rfl⟩
   unfold vg.c1 at hF
   refine At.cut (fun rs L=>∃ _:Unit,vg.c2 (vg.Fn n) all1 list1 found1 low6 high6 Q∧rs=[.map g1 (kPair (kInt .i64) (kInt .i64)) (kInt .i64) found1]∧L=mkL [(0,(.tv (kSlice kSegment) all1)),(1,(.tv (kSlice (kInt .i64)) list1)),(2,(.eq (.map (some g1)))),(7,(.tv (kInt .i64) low6)),(8,(.tv (kInt .i64) high6))]) ?_ ?_
   ·refine At.seq (At.region (At.d R R R R (jb (x:=(.eq v8)) (ja R)) ?_))
    refine At.d R R R R (does_len_row (ja R) 1 R Tryz.underlying27) ?_
    refine At.d R R R R (jj (ja R) (ji _ _) bin_leq) ?_
    refine At.done (At.jy ?_)
    refine At.cond (ja R) (fun hb46=>?_) (fun hb46=>?_)
    ·replace hF:=W.ite_t hb46 hF
     refine At.seq (At.region (At.d R R R R (jb (x:=(.eq v8)) (ja R)) ?_))
     refine At.freezes 1 [6,74,78] R ⟨R,R,R,trivial⟩ ?_
     replace hF:=W.ve hF
     refine At.f R (jn R R (jp R en_70 (jf (ja R) jg)) [] R (sweep_All.ok hF)) ?_
     rintro _ _ ⟨_,_,⟨r13,v51,hF,rfl,rfl⟩,rfl,rfl⟩
     refine At.d R R R R (jb (x:=(.tup2 (.eq v51) (.tv (kInt .i64) r13.2))) (ja R)) ?_
     refine At.d R R R R (does_extract20 (ja R)) ?_
     refine At.d R R R R (does_extract21 (ja R)) ?_
     refine At.d R R R R (jd (x:=(.eq v51)) (ja R)) ?_
     refine At.d R R R R (jd (x:=(.tv (kInt .i64) r13.2)) (ja R)) ?_
     refine At.done (At.jy ?_)
     refine At.cut (fun rs L=>∃ (x49:(List ((Int×Int)×Int))),vg.c6 x49 Q∧rs=[.map g1 (kPair (kInt .i64) (kInt .i64)) (kInt .i64) x49]∧L=mkL []) ?_ ?_
     ·refine At.seq (At.region (At.d R R R R (jb (x:=(.eq v51)) (ja R)) ?_))
      refine At.d R R R R (does_len_row (ja R) 0 R Tryz.underlying121) ?_
      refine At.d R R R R (jb (x:=(.tv (kInt .i64) (0:Int))) (ji _ _)) ?_
      refine At.done (At.jy (At.block ?_))
      obtain ⟨n4,hF⟩:=hF
      refine At.w [1,0] R [(1,(.tv (kSlice (kInt .i64)) list1)),(2,(.eq (.map (some g1)))),(82,(.eq v51)),(83,(.tv (kInt .i64) (r13.1.length:Int))),(84,(.tv (kInt .i64) (0:Int)))] ⟨R,R,R,R,R,trivial⟩ ?_
      refine At.loop (fun m rs L=>∃ (x52:(List ((Int×Int)×Int))) (t33:Int),W.iter2 (vg.l4 list1 r13 (vg.c6)) m x52 t33 Q∧rs=[.map g1 (kPair (kInt .i64) (kInt .i64)) (kInt .i64) x52,.row v51 125 kMeet r13.1]∧L=mkL [(1,(.tv (kSlice (kInt .i64)) list1)),(2,(.eq (.map (some g1)))),(82,(.eq v51)),(83,(.tv (kInt .i64) (r13.1.length:Int))),(84,(.tv (kInt .i64) t33))]) ?_ ?_ (m:=n4) ⟨found1,(0:Int),hF,R,R⟩
      ·rintro rs L ⟨_,_,hF,_,_⟩;exact hF
      ·rintro m4 _ _ ⟨x52,t33,hF,rfl,rfl⟩
       replace hF:=W.iter2_s hF
       unfold vg.l4 at hF
       refine At.seq (At.region (At.d R R R R (jj (ja R) (ja R) jw) ?_))
       refine At.done (At.jy (At.seq ?_))
       refine At.cond (ja R) (fun hb51=>?_) (fun hb51=>?_)
       ·replace hF:=W.ite_t hb51 hF
        refine At.skip (At.jy (At.seq (At.block (At.seq (At.region ?_)))))
        obtain ⟨hq93,hF⟩:=hF
        refine At.d R R R R (does_idx_row (ja R) 1 R (ja R) Tryz.underlying121 ty_125 hq93) ?_
        obtain ⟨hq94,hF⟩:=hF
        refine At.d R R R R (does_load_elem (ja R) 1 R t33 0 R zMeet hq94 (Sub.self kMeet) ty_125) ?_
        refine At.f R (eff_alloc R R R tz_125) ?_
        rintro _ _ ⟨g10,rfl,rfl⟩
        refine At.f R (ju R R (ja R) 0 R (Sub.self kMeet) ty_125 (ja R)) ?_
        rintro _ _ ⟨rfl,rfl⟩
        refine At.done (At.jy ?_)
        refine At.draw mixed [0,1,2] R [[],[14],[]] (fun φ w hgd=>?_)
        obtain ⟨hq95,hF⟩:=hF
        obtain ⟨hq96,hF⟩:=hF
        refine AtH.take [0,1,2] hgd 0 R R R R (D':=#[Y,N,N,N,N,N,N,N,N,N,N,N,N,N,N]) (by kernel_rfl) (fun _ _ _ _ h=>h) R (jb (x:=(.eq (.map (some g1)))) (ja R)) ?_
        refine AtH.take [0,1,2] hgd 1 R R R R (D':=#[Y,Y,N,N,N,N,N,N,N,N,N,N,N,N,N]) (by kernel_rfl) (fun _ _ _ _ h=>h) R (jb (x:=(.tv (kSlice (kInt .i64)) list1)) (ja R)) ?_
        refine AtH.take [0,1,2] hgd 2 R R R R (D':=#[Y,Y,Y,N,N,N,N,N,N,N,N,N,N,N,N]) (by kernel_rfl) (fun _ _ _ _ h=>h) R (je (ja R) fa_125_0) ?_
        refine AtH.take [0,1,2] hgd 3 R R R R (D':=#[Y,Y,Y,Y,N,N,N,N,N,N,N,N,N,N,N]) (by kernel_rfl) (fun _ _ _ _ h=>h) R (jc (ja R) 0 R sub_Meet_0 ty_3) ?_
        refine AtH.take [0,1,2] hgd 4 R R R R (D':=#[Y,Y,Y,Y,Y,N,N,N,N,N,N,N,N,N,N]) (by kernel_rfl) (fun _ _ _ _ h=>h) R (jx (0:Int) (ja R) (ja R) Tryz.underlying89 ty_3 hq95) ?_
        refine AtH.take [0,1,2] hgd 5 R R R R (D':=#[Y,Y,Y,Y,Y,Y,N,N,N,N,N,N,N,N,N]) (by kernel_rfl) (fun _ _ _ _ h=>h) R (vi (K:=(kInt .i64)) (ja R) ty_3) ?_
        refine AtH.take [0,1,2] hgd 6 R R R R (D':=#[Y,Y,Y,Y,Y,Y,Y,N,N,N,N,N,N,N,N]) (by kernel_rfl) (fun _ _ _ _ h=>h) R (jb (x:=(.tv (kSlice (kInt .i64)) list1)) (ja R)) ?_
        refine AtH.take [0,1,2] hgd 7 R R R R (D':=#[Y,Y,Y,Y,Y,Y,Y,Y,N,N,N,N,N,N,N]) (by kernel_rfl) (fun _ _ _ _ h=>h) R (je (ja R) fa_125_1) ?_
        refine AtH.take [0,1,2] hgd 8 R R R R (D':=#[Y,Y,Y,Y,Y,Y,Y,Y,Y,N,N,N,N,N,N]) (by kernel_rfl) (fun _ _ _ _ h=>h) R (jc (ja R) 0 R sub_Meet_1 ty_3) ?_
        refine AtH.take [0,1,2] hgd 9 R R R R (D':=#[Y,Y,Y,Y,Y,Y,Y,Y,Y,Y,N,N,N,N,N]) (by kernel_rfl) (fun _ _ _ _ h=>h) R (jx (0:Int) (ja R) (ja R) Tryz.underlying89 ty_3 hq96) ?_
        refine AtH.take [0,1,2] hgd 10 R R R R (D':=#[Y,Y,Y,Y,Y,Y,Y,Y,Y,Y,Y,N,N,N,N]) (by kernel_rfl) (fun _ _ _ _ h=>h) R (vi (K:=(kInt .i64)) (ja R) ty_3) ?_
        refine AtH.take [0,1,2] hgd 11 R R R R (D':=#[Y,Y,Y,Y,Y,Y,Y,Y,Y,Y,Y,Y,N,N,N]) (by kernel_rfl) (fun _ _ _ _ h=>h) R (does_build (jq (ja R) (jq (ja R) parts_nil)) zr_92 bd_92 R (fills_cons R sub_a92_0 (fills_cons R sub_a92_1 fills_nil))) ?_
        refine AtH.take [0,1,2] hgd 12 R R R R (D':=#[Y,Y,Y,Y,Y,Y,Y,Y,Y,Y,Y,Y,Y,N,N]) (by kernel_rfl) (fun _ _ _ _ h=>h) R (je (ja R) fa_125_2) ?_
        refine AtH.take [0,1,2] hgd 13 R R R R (D':=#[Y,Y,Y,Y,Y,Y,Y,Y,Y,Y,Y,Y,Y,Y,N]) (by kernel_rfl) (fun _ _ _ _ h=>h) R (jc (ja R) 0 R sub_Meet_2 ty_3) ?_
        refine AtH.all1 14 (by kernel_rfl) ?_
        refine AtH.eff0 [(0,0),(2,2)] R R R R R (eff_mapUpdate R R (ja R) 1 R mt_90 (ja R) (ja R)) (D':=#[Y,Y,Y,Y,Y,Y,Y,Y,Y,Y,Y,Y,Y,Y,Y]) (by kernel_rfl) (by kernel_rfl) ?_
        rintro _ _ ⟨rfl,rfl⟩
        refine AtH.done (by kernel_rfl) ?_
        refine At.n ?_
        refine At.jy (At.region (At.d R R R R (jj (ja R) (ji _ _) jv) ?_))
        refine At.d R R R R (jb (x:=(.tv (kInt .i64) (w64 (t33+(1:Int))))) (ja R)) ?_
        refine At.done (At.jy ?_)
        refine At.w [1,2] R [(1,(.tv (kSlice (kInt .i64)) list1)),(2,(.eq (.map (some g1)))),(82,(.eq v51)),(83,(.tv (kInt .i64) (r13.1.length:Int))),(84,(.tv (kInt .i64) (w64 (t33+(1:Int)))))] ⟨R,R,R,R,R,trivial⟩ (At.r ⟨(mset ((rd (0:Int) list1 ((rd zMeet r13.1 t33).A)),(rd (0:Int) list1 ((rd zMeet r13.1 t33).B))) ((rd zMeet r13.1 t33).Kind) x52),(w64 (t33+(1:Int))),hF,R,R⟩)
       ·replace hF:=W.ite_f hb51 hF
        refine At.exit ?_
        refine At.x (At.x ?_)
        refine At.h ?_
        refine At.jy ?_
        refine At.w [0] R [] trivial (At.r ⟨x52,hF,R,R⟩)
     ·rintro _ _ ⟨x49,hF,rfl,rfl⟩
      unfold vg.c6 at hF
      refine At.ret (At.jz ?_)
      exact At.ret_0 rfl  [0] rfl ⟨x49,hF,rfl,rfl⟩
    ·replace hF:=W.ite_f hb46 hF
     refine At.skip (At.jy ?_)
     refine At.w [0] R [(0,(.tv (kSlice kSegment) all1)),(1,(.tv (kSlice (kInt .i64)) list1)),(2,(.eq (.map (some g1)))),(7,(.tv (kInt .i64) low6)),(8,(.tv (kInt .i64) high6))] ⟨R,R,R,R,R,trivial⟩ (At.r ⟨(),hF,R,R⟩)
   ·rintro _ _ ⟨_,hF,rfl,rfl⟩
    unfold vg.c2 at hF
    refine At.seq (At.region (At.d R R R R (jd (x:=(.eq (.slice none 0 0))) (opd_eq _)) ?_))
    refine At.d R R R R (jd (x:=(.eq (.slice none 0 0))) (opd_eq _)) ?_
    refine At.done (At.jy (At.seq (At.region (At.d R R R R (jb (x:=(.tv (kInt .i64) low6)) (ja R)) ?_))))
    refine At.d R R R R (jb (x:=(.tv (kInt .i64) high6)) (ja R)) ?_
    refine At.d R R R R (jb (x:=(.tv (kInt .i64) low6)) (ja R)) ?_
    refine At.d R R R R (jj (ja R) (ja R) bin_sub) ?_
    refine At.d R R R R (jj (ja R) (ji _ _) (bin_quo (by decide))) ?_
    refine At.d R R R R (jj (ja R) (ja R) jv) ?_
    refine At.d R R R R (jd (x:=(.tv (kInt .i64) (w64 (low6+(w64 (Int.tdiv (w64 (high6-low6)) (2:Int))))))) (ja R)) ?_
    refine At.done (At.jy ?_)
    refine At.cut (fun rs L=>∃ (x17:(List Int)) (v26:Value) (x18:(List Int)) (v27:Value),vg.c3 (vg.Fn n) all1 list1 found1 x17 x18 Q∧rs=[.map g1 (kPair (kInt .i64) (kInt .i64)) (kInt .i64) found1,.row v26 3 (kInt .i64) x17,.row v27 3 (kInt .i64) x18]∧L=mkL [(0,(.tv (kSlice kSegment) all1)),(1,(.tv (kSlice (kInt .i64)) list1)),(2,(.eq (.map (some g1)))),(16,(.eq v26)),(17,(.eq v27))]) ?_ ?_
    ·refine At.seq (At.region (At.d R R R R (jb (x:=(.tv (kSlice (kInt .i64)) list1)) (ja R)) ?_))
     refine At.d R R R R (jr (ja R) Tryz.underlying89) ?_
     refine At.d R R R R (jb (x:=(.tv (kInt .i64) (0:Int))) (ji _ _)) ?_
     refine At.done (At.jy (At.block ?_))
     refine At.nilrow 3 (kInt .i64) ?_
     refine At.nilrow 3 (kInt .i64) ?_
     obtain ⟨n3,hF⟩:=hF
     refine At.w [2,1,0] R [(0,(.tv (kSlice kSegment) all1)),(1,(.tv (kSlice (kInt .i64)) list1)),(2,(.eq (.map (some g1)))),(16,(.eq (.slice none 0 0))),(17,(.eq (.slice none 0 0))),(18,(.tv (kInt .i64) (w64 (low6+(w64 (Int.tdiv (w64 (high6-low6)) (2:Int))))))),(109,(.tv (kSlice (kInt .i64)) list1)),(110,(.tv (kInt .i64) (list1.length:Int))),(111,(.tv (kInt .i64) (0:Int)))] ⟨R,R,R,R,R,R,R,R,R,trivial⟩ ?_
     refine At.loop (fun m rs L=>∃ (x43:(List Int)) (v42:Value) (x44:(List Int)) (v43:Value) (t27:Int),W.iter3 (vg.l3 all1 list1 low6 high6 (vg.c3 (vg.Fn n) all1 list1 found1)) m x43 x44 t27 Q∧rs=[.map g1 (kPair (kInt .i64) (kInt .i64)) (kInt .i64) found1,.row v42 3 (kInt .i64) x43,.row v43 3 (kInt .i64) x44]∧L=mkL [(0,(.tv (kSlice kSegment) all1)),(1,(.tv (kSlice (kInt .i64)) list1)),(2,(.eq (.map (some g1)))),(16,(.eq v42)),(17,(.eq v43)),(18,(.tv (kInt .i64) (w64 (low6+(w64 (Int.tdiv (w64 (high6-low6)) (2:Int))))))),(109,(.tv (kSlice (kInt .i64)) list1)),(110,(.tv (kInt .i64) (list1.length:Int))),(111,(.tv (kInt .i64) t27))]) ?_ ?_ (m:=n3) ⟨([]:List Int),(.slice none 0 0),([]:List Int),(.slice none 0 0),(0:Int),hF,R,R⟩
     ·rintro rs L ⟨_,_,_,_,_,hF,_,_⟩;exact hF
     ·rintro m3 _ _ ⟨x43,v42,x44,v43,t27,hF,rfl,rfl⟩
      replace hF:=W.iter3_s hF
      unfold vg.l3 at hF
      refine At.seq (At.region (At.d R R R R (jj (ja R) (ja R) jw) ?_))
      refine At.done (At.jy (At.seq ?_))
      refine At.cond (ja R) (fun hb42=>?_) (fun hb42=>?_)
      ·replace hF:=W.ite_t hb42 hF
       refine At.skip (At.jy (At.seq (At.block (At.seq (At.region ?_)))))
       obtain ⟨hq70,hF⟩:=hF
       refine At.d R R R R (jx (0:Int) (ja R) (ja R) Tryz.underlying89 ty_3 hq70) ?_
       refine At.d R R R R (vi (K:=(kInt .i64)) (ja R) ty_3) ?_
       refine At.d R R R R (jd (x:=(.tv (kInt .i64) (rd (0:Int) list1 t27))) (ja R)) ?_
       refine At.done (At.jy ?_)
       refine At.cut (fun rs L=>∃ (x45:(List Int)) (v46:Value),vg.c5 all1 list1 low6 high6 x44 t27 (W.iter3 (vg.l3 all1 list1 low6 high6 (vg.c3 (vg.Fn n) all1 list1 found1)) m3) x45 Q∧rs=[.map g1 (kPair (kInt .i64) (kInt .i64)) (kInt .i64) found1,.row v46 3 (kInt .i64) x45,.row v43 3 (kInt .i64) x44]∧L=mkL [(0,(.tv (kSlice kSegment) all1)),(1,(.tv (kSlice (kInt .i64)) list1)),(2,(.eq (.map (some g1)))),(16,(.eq v46)),(17,(.eq v43)),(18,(.tv (kInt .i64) (w64 (low6+(w64 (Int.tdiv (w64 (high6-low6)) (2:Int))))))),(20,(.tv (kInt .i64) (rd (0:Int) list1 t27))),(109,(.tv (kSlice (kInt .i64)) list1)),(110,(.tv (kInt .i64) (list1.length:Int))),(111,(.tv (kInt .i64) t27))]) ?_ ?_
       ·refine At.seq ?_
        refine At.draw mixed [0,1,2] R [[],[],[]] (fun φ w hgd=>?_)
        obtain ⟨hq75,hF⟩:=hF
        refine AtH.take [0,1,2] hgd 0 R R R R (D':=#[Y,N,N,N,N,N,N,N,N,N,N,N,N,N,N]) (by kernel_rfl) (fun _ _ _ _ h=>h) R (jb (x:=(.tv (kSlice kSegment) all1)) (ja R)) ?_
        refine AtH.take [0,1,2] hgd 1 R R R R (D':=#[Y,Y,N,N,N,N,N,N,N,N,N,N,N,N,N]) (by kernel_rfl) (fun _ _ _ _ h=>h) R (jb (x:=(.tv (kInt .i64) (rd (0:Int) list1 t27))) (ja R)) ?_
        refine AtH.take [0,1,2] hgd 2 R R R R (D':=#[Y,Y,Y,N,N,N,N,N,N,N,N,N,N,N,N]) (by kernel_rfl) (fun _ _ _ _ h=>h) R (jx zSegment (ja R) (ja R) Tryz.underlying27 ty_39 hq75) ?_
        refine AtH.take [0,1,2] hgd 3 R R R R (D':=#[Y,Y,Y,Y,N,N,N,N,N,N,N,N,N,N,N]) (by kernel_rfl) (fun _ _ _ _ h=>h) R (vq (K:=kSegment) (ja R) fa_39_0 vo) ?_
        refine AtH.take [0,1,2] hgd 4 R R R R (D':=#[Y,Y,Y,Y,Y,N,N,N,N,N,N,N,N,N,N]) (by kernel_rfl) (fun _ _ _ _ h=>h) R (vq (K:=kPoint) (ja R) fa_37_0 sub_Point_0) ?_
        refine AtH.take [0,1,2] hgd 5 R R R R (D':=#[Y,Y,Y,Y,Y,Y,N,N,N,N,N,N,N,N,N]) (by kernel_rfl) (fun _ _ _ _ h=>h) R (vi (K:=(kInt .i64)) (ja R) ty_3) ?_
        refine AtH.take [0,1,2] hgd 6 R R R R (D':=#[Y,Y,Y,Y,Y,Y,Y,N,N,N,N,N,N,N,N]) (by kernel_rfl) (fun _ _ _ _ h=>h) R (jb (x:=(.tv (kSlice kSegment) all1)) (ja R)) ?_
        refine AtH.take [0,1,2] hgd 7 R R R R (D':=#[Y,Y,Y,Y,Y,Y,Y,Y,N,N,N,N,N,N,N]) (by kernel_rfl) (fun _ _ _ _ h=>h) R (jb (x:=(.tv (kInt .i64) (rd (0:Int) list1 t27))) (ja R)) ?_
        refine AtH.take [0,1,2] hgd 8 R R R R (D':=#[Y,Y,Y,Y,Y,Y,Y,Y,Y,N,N,N,N,N,N]) (by kernel_rfl) (fun _ _ _ _ h=>h) R (jx zSegment (ja R) (ja R) Tryz.underlying27 ty_39 hq75) ?_
        refine AtH.take [0,1,2] hgd 9 R R R R (D':=#[Y,Y,Y,Y,Y,Y,Y,Y,Y,Y,N,N,N,N,N]) (by kernel_rfl) (fun _ _ _ _ h=>h) R (vq (K:=kSegment) (ja R) fa_39_1 vp) ?_
        refine AtH.take [0,1,2] hgd 10 R R R R (D':=#[Y,Y,Y,Y,Y,Y,Y,Y,Y,Y,Y,N,N,N,N]) (by kernel_rfl) (fun _ _ _ _ h=>h) R (vq (K:=kPoint) (ja R) fa_37_0 sub_Point_0) ?_
        refine AtH.take [0,1,2] hgd 11 R R R R (D':=#[Y,Y,Y,Y,Y,Y,Y,Y,Y,Y,Y,Y,N,N,N]) (by kernel_rfl) (fun _ _ _ _ h=>h) R (vi (K:=(kInt .i64)) (ja R) ty_3) ?_
        refine AtH.take [0,1,2] hgd 12 R R R R (D':=#[Y,Y,Y,Y,Y,Y,Y,Y,Y,Y,Y,Y,Y,N,N]) (by kernel_rfl) (fun _ _ _ _ h=>h) R (does_min (ja R) (ja R)) ?_
        refine AtH.take [0,1,2] hgd 13 R R R R (D':=#[Y,Y,Y,Y,Y,Y,Y,Y,Y,Y,Y,Y,Y,Y,N]) (by kernel_rfl) (fun _ _ _ _ h=>h) R (jb (x:=(.tv (kInt .i64) (w64 (low6+(w64 (Int.tdiv (w64 (high6-low6)) (2:Int))))))) (ja R)) ?_
        refine AtH.take [0,1,2] hgd 14 R R R R (D':=#[Y,Y,Y,Y,Y,Y,Y,Y,Y,Y,Y,Y,Y,Y,Y]) (by kernel_rfl) (fun _ _ _ _ h=>h) R (jj (ja R) (ja R) bin_leq) ?_
        refine AtH.done (by kernel_rfl) ?_
        refine At.jy ?_
        refine At.cond (ja R) (fun hb45=>?_) (fun hb45=>?_)
        ·replace hF:=W.ite_t hb45 hF
         refine At.region (At.d R R R R (jb (x:=(.eq v42)) (ja R)) ?_)
         refine At.d R R R R (jb (x:=(.tv (kInt .i64) (rd (0:Int) list1 t27))) (ja R)) ?_
         refine At.f R (eff_lit R R R (os:=[.tmp 131]) R sl_89 (xs:=([(rd (0:Int) list1 t27)]:List Int)) (jf (ja R) jg) R R) ?_
         rintro _ _ ⟨v49,rfl,rfl⟩
         obtain ⟨hq76,hF⟩:=hF
         refine At.f R (eff_append_row R R R 2 0 R R (ja R) (ja R) sl_89 hq76) ?_
         rintro _ _ ⟨v50,rfl,rfl⟩
         refine At.d R R R R (jd (x:=(.eq v50)) (ja R)) ?_
         refine At.done (At.jy ?_)
         refine At.w [1,2,3] R [(0,(.tv (kSlice kSegment) all1)),(1,(.tv (kSlice (kInt .i64)) list1)),(2,(.eq (.map (some g1)))),(16,(.eq v50)),(17,(.eq v43)),(18,(.tv (kInt .i64) (w64 (low6+(w64 (Int.tdiv (w64 (high6-low6)) (2:Int))))))),(20,(.tv (kInt .i64) (rd (0:Int) list1 t27))),(109,(.tv (kSlice (kInt .i64)) list1)),(110,(.tv (kInt .i64) (list1.length:Int))),(111,(.tv (kInt .i64) t27))] ⟨R,R,R,R,R,R,R,R,R,R,trivial⟩ (At.r ⟨(x43++([(rd (0:Int) list1 t27)]:List Int)),v50,hF,R,R⟩)
        ·replace hF:=W.ite_f hb45 hF
         refine At.skip (At.jy ?_)
         refine At.w [0,1,2] R [(0,(.tv (kSlice kSegment) all1)),(1,(.tv (kSlice (kInt .i64)) list1)),(2,(.eq (.map (some g1)))),(16,(.eq v42)),(17,(.eq v43)),(18,(.tv (kInt .i64) (w64 (low6+(w64 (Int.tdiv (w64 (high6-low6)) (2:Int))))))),(20,(.tv (kInt .i64) (rd (0:Int) list1 t27))),(109,(.tv (kSlice (kInt .i64)) list1)),(110,(.tv (kInt .i64) (list1.length:Int))),(111,(.tv (kInt .i64) t27))] ⟨R,R,R,R,R,R,R,R,R,R,trivial⟩ (At.r ⟨x43,v42,hF,R,R⟩)
       ·rintro _ _ ⟨x45,v46,hF,rfl,rfl⟩
        unfold vg.c5 at hF
        refine At.seq ?_
        refine At.draw mixed [0,1,2] R [[],[],[]] (fun φ w hgd=>?_)
        obtain ⟨hq73,hF⟩:=hF
        refine AtH.take [0,1,2] hgd 0 R R R R (D':=#[Y,N,N,N,N,N,N,N,N,N,N,N,N,N,N]) (by kernel_rfl) (fun _ _ _ _ h=>h) R (jb (x:=(.tv (kSlice kSegment) all1)) (ja R)) ?_
        refine AtH.take [0,1,2] hgd 1 R R R R (D':=#[Y,Y,N,N,N,N,N,N,N,N,N,N,N,N,N]) (by kernel_rfl) (fun _ _ _ _ h=>h) R (jb (x:=(.tv (kInt .i64) (rd (0:Int) list1 t27))) (ja R)) ?_
        refine AtH.take [0,1,2] hgd 2 R R R R (D':=#[Y,Y,Y,N,N,N,N,N,N,N,N,N,N,N,N]) (by kernel_rfl) (fun _ _ _ _ h=>h) R (jx zSegment (ja R) (ja R) Tryz.underlying27 ty_39 hq73) ?_
        refine AtH.take [0,1,2] hgd 3 R R R R (D':=#[Y,Y,Y,Y,N,N,N,N,N,N,N,N,N,N,N]) (by kernel_rfl) (fun _ _ _ _ h=>h) R (vq (K:=kSegment) (ja R) fa_39_0 vo) ?_
        refine AtH.take [0,1,2] hgd 4 R R R R (D':=#[Y,Y,Y,Y,Y,N,N,N,N,N,N,N,N,N,N]) (by kernel_rfl) (fun _ _ _ _ h=>h) R (vq (K:=kPoint) (ja R) fa_37_0 sub_Point_0) ?_
        refine AtH.take [0,1,2] hgd 5 R R R R (D':=#[Y,Y,Y,Y,Y,Y,N,N,N,N,N,N,N,N,N]) (by kernel_rfl) (fun _ _ _ _ h=>h) R (vi (K:=(kInt .i64)) (ja R) ty_3) ?_
        refine AtH.take [0,1,2] hgd 6 R R R R (D':=#[Y,Y,Y,Y,Y,Y,Y,N,N,N,N,N,N,N,N]) (by kernel_rfl) (fun _ _ _ _ h=>h) R (jb (x:=(.tv (kSlice kSegment) all1)) (ja R)) ?_
        refine AtH.take [0,1,2] hgd 7 R R R R (D':=#[Y,Y,Y,Y,Y,Y,Y,Y,N,N,N,N,N,N,N]) (by kernel_rfl) (fun _ _ _ _ h=>h) R (jb (x:=(.tv (kInt .i64) (rd (0:Int) list1 t27))) (ja R)) ?_
        refine AtH.take [0,1,2] hgd 8 R R R R (D':=#[Y,Y,Y,Y,Y,Y,Y,Y,Y,N,N,N,N,N,N]) (by kernel_rfl) (fun _ _ _ _ h=>h) R (jx zSegment (ja R) (ja R) Tryz.underlying27 ty_39 hq73) ?_
        refine AtH.take [0,1,2] hgd 9 R R R R (D':=#[Y,Y,Y,Y,Y,Y,Y,Y,Y,Y,N,N,N,N,N]) (by kernel_rfl) (fun _ _ _ _ h=>h) R (vq (K:=kSegment) (ja R) fa_39_1 vp) ?_
        refine AtH.take [0,1,2] hgd 10 R R R R (D':=#[Y,Y,Y,Y,Y,Y,Y,Y,Y,Y,Y,N,N,N,N]) (by kernel_rfl) (fun _ _ _ _ h=>h) R (vq (K:=kPoint) (ja R) fa_37_0 sub_Point_0) ?_
        refine AtH.take [0,1,2] hgd 11 R R R R (D':=#[Y,Y,Y,Y,Y,Y,Y,Y,Y,Y,Y,Y,N,N,N]) (by kernel_rfl) (fun _ _ _ _ h=>h) R (vi (K:=(kInt .i64)) (ja R) ty_3) ?_
        refine AtH.take [0,1,2] hgd 12 R R R R (D':=#[Y,Y,Y,Y,Y,Y,Y,Y,Y,Y,Y,Y,Y,N,N]) (by kernel_rfl) (fun _ _ _ _ h=>h) R (does_max (ja R) (ja R)) ?_
        refine AtH.take [0,1,2] hgd 13 R R R R (D':=#[Y,Y,Y,Y,Y,Y,Y,Y,Y,Y,Y,Y,Y,Y,N]) (by kernel_rfl) (fun _ _ _ _ h=>h) R (jb (x:=(.tv (kInt .i64) (w64 (low6+(w64 (Int.tdiv (w64 (high6-low6)) (2:Int))))))) (ja R)) ?_
        refine AtH.take [0,1,2] hgd 14 R R R R (D':=#[Y,Y,Y,Y,Y,Y,Y,Y,Y,Y,Y,Y,Y,Y,Y]) (by kernel_rfl) (fun _ _ _ _ h=>h) R (jj (ja R) (ja R) bin_gtr) ?_
        refine AtH.done (by kernel_rfl) ?_
        refine At.jy ?_
        refine At.cond (ja R) (fun hb44=>?_) (fun hb44=>?_)
        ·replace hF:=W.ite_t hb44 hF
         refine At.region (At.d R R R R (jb (x:=(.eq v43)) (ja R)) ?_)
         refine At.d R R R R (jb (x:=(.tv (kInt .i64) (rd (0:Int) list1 t27))) (ja R)) ?_
         refine At.f R (eff_lit R R R (os:=[.tmp 150]) R sl_89 (xs:=([(rd (0:Int) list1 t27)]:List Int)) (jf (ja R) jg) R R) ?_
         rintro _ _ ⟨v47,rfl,rfl⟩
         obtain ⟨hq74,hF⟩:=hF
         refine At.f R (eff_append_row R R R 3 0 R R (ja R) (ja R) sl_89 hq74) ?_
         rintro _ _ ⟨v48,rfl,rfl⟩
         refine At.d R R R R (jd (x:=(.eq v48)) (ja R)) ?_
         refine At.done ?_
         refine At.n ?_
         refine At.jy (At.region (At.d R R R R (jj (ja R) (ji _ _) jv) ?_))
         refine At.d R R R R (jb (x:=(.tv (kInt .i64) (w64 (t27+(1:Int))))) (ja R)) ?_
         refine At.done (At.jy ?_)
         refine At.w [1,2,3] R [(0,(.tv (kSlice kSegment) all1)),(1,(.tv (kSlice (kInt .i64)) list1)),(2,(.eq (.map (some g1)))),(16,(.eq v46)),(17,(.eq v48)),(18,(.tv (kInt .i64) (w64 (low6+(w64 (Int.tdiv (w64 (high6-low6)) (2:Int))))))),(109,(.tv (kSlice (kInt .i64)) list1)),(110,(.tv (kInt .i64) (list1.length:Int))),(111,(.tv (kInt .i64) (w64 (t27+(1:Int)))))] ⟨R,R,R,R,R,R,R,R,R,trivial⟩ (At.r ⟨x45,v46,(x44++([(rd (0:Int) list1 t27)]:List Int)),v48,(w64 (t27+(1:Int))),hF,R,R⟩)
        ·replace hF:=W.ite_f hb44 hF
         refine At.skip ?_
         refine At.n ?_
         refine At.jy (At.region (At.d R R R R (jj (ja R) (ji _ _) jv) ?_))
         refine At.d R R R R (jb (x:=(.tv (kInt .i64) (w64 (t27+(1:Int))))) (ja R)) ?_
         refine At.done (At.jy ?_)
         refine At.w [0,1,2] R [(0,(.tv (kSlice kSegment) all1)),(1,(.tv (kSlice (kInt .i64)) list1)),(2,(.eq (.map (some g1)))),(16,(.eq v46)),(17,(.eq v43)),(18,(.tv (kInt .i64) (w64 (low6+(w64 (Int.tdiv (w64 (high6-low6)) (2:Int))))))),(109,(.tv (kSlice (kInt .i64)) list1)),(110,(.tv (kInt .i64) (list1.length:Int))),(111,(.tv (kInt .i64) (w64 (t27+(1:Int)))))] ⟨R,R,R,R,R,R,R,R,R,trivial⟩ (At.r ⟨x45,v46,x44,v43,(w64 (t27+(1:Int))),hF,R,R⟩)
      ·replace hF:=W.ite_f hb42 hF
       refine At.exit ?_
       refine At.x (At.x ?_)
       refine At.h ?_
       refine At.jy ?_
       refine At.w [0,1,2] R [(0,(.tv (kSlice kSegment) all1)),(1,(.tv (kSlice (kInt .i64)) list1)),(2,(.eq (.map (some g1)))),(16,(.eq v42)),(17,(.eq v43))] ⟨R,R,R,R,R,trivial⟩ (At.r ⟨x43,v42,x44,v43,hF,R,R⟩)
    ·rintro _ _ ⟨x17,v26,x18,v27,hF,rfl,rfl⟩
     unfold vg.c3 at hF
     refine At.seq (At.seq (At.region (At.d R R R R (jb (x:=(.eq v26)) (ja R)) ?_)))
     refine At.d R R R R (does_len_row (ja R) 1 R Tryz.underlying89) ?_
     refine At.d R R R R (jb (x:=(.tv (kSlice (kInt .i64)) list1)) (ja R)) ?_
     refine At.d R R R R (jr (ja R) Tryz.underlying89) ?_
     refine At.d R R R R (jj (ja R) (ja R) jw) ?_
     refine At.d R R R R (jb (x:=(.tv kBool (decide ((x17.length:Int)<(list1.length:Int))))) (ja R)) ?_
     refine At.vc R R R R (js R) R (fun hg1=>(jb (x:=(.eq v27)) (ja R))) ?_
     refine At.vc R R R R (js R) R (fun hg2=>(does_len_row (jh R hg2) 2 R Tryz.underlying89)) ?_
     refine At.vc R R R R (js R) R (fun hg3=>(jb (x:=(.tv (kSlice (kInt .i64)) list1)) (ja R))) ?_
     refine At.vc R R R R (js R) R (fun hg4=>(jr (jh R hg4) Tryz.underlying89)) ?_
     refine At.vc R R R R (js R) R (fun hg5=>(jj (jh R hg5) (jh R hg5) jw)) ?_
     refine At.d R R R R (jl (ja R) (ja R) (jk _) pick_and) ?_
     refine At.done (At.jy ?_)
     refine At.cond (ja R) (fun hb14=>?_) (fun hb14=>?_)
     ·replace hF:=W.ite_t hb14 hF
      refine At.seq (At.region (At.d R R R R (jb (x:=(.tv (kSlice kSegment) all1)) (ja R)) ?_))
      refine At.d R R R R (jb (x:=(.eq v26)) (ja R)) ?_
      refine At.d R R R R (jb (x:=(.eq (.map (some g1)))) (ja R)) ?_
      refine At.freezes 1 [16,154,167] R ⟨R,R,R,trivial⟩ ?_
      replace hF:=W.ve hF
      refine At.f R (jn R R (jp R en_37 (jf (ja R) (jf (ja R) (jf (ja R) jg)))) [0] R (ih hF)) ?_
      rintro _ _ ⟨_,_,⟨r2,hF,rfl,rfl⟩,rfl,rfl⟩
      refine At.done (At.jy (At.seq (At.region (At.d R R R R (jb (x:=(.tv (kSlice kSegment) all1)) (ja R)) ?_))))
      refine At.d R R R R (jb (x:=(.eq v27)) (ja R)) ?_
      refine At.d R R R R (jb (x:=(.eq (.map (some g1)))) (ja R)) ?_
      refine At.freeze2 3 17 171 R R R ?_
      replace hF:=W.ve hF
      refine At.f R (jn R R (jp R en_37 (jf (ja R) (jf (ja R) (jf (ja R) jg)))) [0] R (ih hF)) ?_
      rintro _ _ ⟨_,_,⟨r3,hF,rfl,rfl⟩,rfl,rfl⟩
      refine At.done (At.jy (At.ret (At.jz ?_)))
      exact At.ret_0 rfl  [0] rfl ⟨r3,hF,rfl,rfl⟩
     ·replace hF:=W.ite_f hb14 hF
      refine At.skip (At.jy (At.seq (At.region (At.d R R R R (jb (x:=(.tv (kSlice (kInt .i64)) list1)) (ja R)) ?_))))
      refine At.d R R R R (jr (ja R) Tryz.underlying89) ?_
      refine At.d R R R R (jb (x:=(.tv (kInt .i64) (0:Int))) (ji _ _)) ?_
      refine At.done (At.jy (At.block ?_))
      obtain ⟨n2,hF⟩:=hF
      refine At.w [0] R [(0,(.tv (kSlice kSegment) all1)),(1,(.tv (kSlice (kInt .i64)) list1)),(2,(.eq (.map (some g1)))),(174,(.tv (kSlice (kInt .i64)) list1)),(175,(.tv (kInt .i64) (list1.length:Int))),(176,(.tv (kInt .i64) (0:Int)))] ⟨R,R,R,R,R,R,trivial⟩ ?_
      refine At.loop (fun m rs L=>∃ (x29:(List ((Int×Int)×Int))) (t18:Int),W.iter2 (vg.l1 all1 list1) m x29 t18 Q∧rs=[.map g1 (kPair (kInt .i64) (kInt .i64)) (kInt .i64) x29]∧L=mkL [(0,(.tv (kSlice kSegment) all1)),(1,(.tv (kSlice (kInt .i64)) list1)),(2,(.eq (.map (some g1)))),(174,(.tv (kSlice (kInt .i64)) list1)),(175,(.tv (kInt .i64) (list1.length:Int))),(176,(.tv (kInt .i64) t18))]) ?_ ?_ (m:=n2) ⟨found1,(0:Int),hF,R,R⟩
      ·rintro rs L ⟨_,_,hF,_,_⟩;exact hF
      ·rintro m1 _ _ ⟨x29,t18,hF,rfl,rfl⟩
       replace hF:=W.iter2_s hF
       unfold vg.l1 at hF
       refine At.seq (At.region (At.d R R R R (jj (ja R) (ja R) jw) ?_))
       refine At.done (At.jy (At.seq ?_))
       refine At.cond (ja R) (fun hb25=>?_) (fun hb25=>?_)
       ·replace hF:=W.ite_t hb25 hF
        refine At.skip (At.jy ?_)
        refine At.cut (fun rs L=>∃ (x33:(List ((Int×Int)×Int))),vg.c4 t18 (W.iter2 (vg.l1 all1 list1) m1) x33 Q∧rs=[.map g1 (kPair (kInt .i64) (kInt .i64)) (kInt .i64) x33]∧L=mkL [(0,(.tv (kSlice kSegment) all1)),(1,(.tv (kSlice (kInt .i64)) list1)),(2,(.eq (.map (some g1)))),(174,(.tv (kSlice (kInt .i64)) list1)),(175,(.tv (kInt .i64) (list1.length:Int))),(176,(.tv (kInt .i64) t18))]) ?_ ?_
        ·refine At.block (At.seq (At.region (At.d R R R R (jb (x:=(.tv (kInt .i64) t18)) (ja R)) ?_)))
         obtain ⟨hq49,hF⟩:=hF
         refine At.d R R R R (jx (0:Int) (ja R) (ja R) Tryz.underlying89 ty_3 hq49) ?_
         refine At.d R R R R (vi (K:=(kInt .i64)) (ja R) ty_3) ?_
         refine At.d R R R R (jd (x:=(.tv (kInt .i64) t18)) (ja R)) ?_
         refine At.d R R R R (jd (x:=(.tv (kInt .i64) (rd (0:Int) list1 t18))) (ja R)) ?_
         refine At.done (At.jy (At.seq (At.region (At.d R R R R (jb (x:=(.tv (kSlice (kInt .i64)) list1)) (ja R)) ?_))))
         refine At.d R R R R (jb (x:=(.tv (kInt .i64) t18)) (ja R)) ?_
         refine At.d R R R R (jj (ja R) (ji _ _) jv) ?_
         obtain ⟨hq50,hF⟩:=hF
         refine At.d R R R R (does_cut_l (ja R) (ja R) Tryz.underlying89 ty_3 hq50) ?_
         refine At.d R R R R (jr (ja R) Tryz.underlying89) ?_
         refine At.d R R R R (jb (x:=(.tv (kInt .i64) (0:Int))) (ji _ _)) ?_
         refine At.done (At.jy (At.block ?_))
         obtain ⟨n1,hF⟩:=hF
         refine At.w [0] R [(0,(.tv (kSlice kSegment) all1)),(1,(.tv (kSlice (kInt .i64)) list1)),(2,(.eq (.map (some g1)))),(22,(.tv (kInt .i64) (rd (0:Int) list1 t18))),(174,(.tv (kSlice (kInt .i64)) list1)),(175,(.tv (kInt .i64) (list1.length:Int))),(176,(.tv (kInt .i64) t18)),(184,(.tv (kSlice (kInt .i64)) (cut_l list1 (w64 (t18+(1:Int)))))),(185,(.tv (kInt .i64) ((cut_l list1 (w64 (t18+(1:Int)))).length:Int))),(186,(.tv (kInt .i64) (0:Int)))] ⟨R,R,R,R,R,R,R,R,R,R,trivial⟩ ?_
         refine At.loop (fun m rs L=>∃ (x36:(List ((Int×Int)×Int))) (t24:Int),W.iter2 (vg.l2 all1 list1 t18 (vg.c4 t18 (W.iter2 (vg.l1 all1 list1) m1))) m x36 t24 Q∧rs=[.map g1 (kPair (kInt .i64) (kInt .i64)) (kInt .i64) x36]∧L=mkL [(0,(.tv (kSlice kSegment) all1)),(1,(.tv (kSlice (kInt .i64)) list1)),(2,(.eq (.map (some g1)))),(22,(.tv (kInt .i64) (rd (0:Int) list1 t18))),(174,(.tv (kSlice (kInt .i64)) list1)),(175,(.tv (kInt .i64) (list1.length:Int))),(176,(.tv (kInt .i64) t18)),(184,(.tv (kSlice (kInt .i64)) (cut_l list1 (w64 (t18+(1:Int)))))),(185,(.tv (kInt .i64) ((cut_l list1 (w64 (t18+(1:Int)))).length:Int))),(186,(.tv (kInt .i64) t24))]) ?_ ?_ (m:=n1) ⟨x29,(0:Int),hF,R,R⟩
         ·rintro rs L ⟨_,_,hF,_,_⟩;exact hF
         ·rintro m2 _ _ ⟨x36,t24,hF,rfl,rfl⟩
          replace hF:=W.iter2_s hF
          unfold vg.l2 at hF
          refine At.seq (At.region (At.d R R R R (jj (ja R) (ja R) jw) ?_))
          refine At.done (At.jy (At.seq ?_))
          refine At.cond (ja R) (fun hb34=>?_) (fun hb34=>?_)
          ·replace hF:=W.ite_t hb34 hF
           refine At.skip (At.jy (At.seq (At.block (At.seq (At.region ?_)))))
           obtain ⟨hq57,hF⟩:=hF
           refine At.d R R R R (jx (0:Int) (ja R) (ja R) Tryz.underlying89 ty_3 hq57) ?_
           refine At.d R R R R (vi (K:=(kInt .i64)) (ja R) ty_3) ?_
           refine At.d R R R R (jd (x:=(.tv (kInt .i64) (rd (0:Int) (cut_l list1 (w64 (t18+(1:Int)))) t24))) (ja R)) ?_
           refine At.done (At.jy (At.seq ?_))
           refine At.draw mixed [0] R [[]] (fun φ w hgd=>?_)
           obtain ⟨hq58,hF⟩:=hF
           obtain ⟨hq59,hF⟩:=hF
           replace hF:=W.ve hF
           refine AtH.take [0] hgd 0 R R R R (D':=#[Y,N,N,N,N,N,N,N,N,N]) (by kernel_rfl) (fun _ _ _ _ h=>h) R (jb (x:=(.tv (kSlice kSegment) all1)) (ja R)) ?_
           refine AtH.take [0] hgd 1 R R R R (D':=#[Y,Y,N,N,N,N,N,N,N,N]) (by kernel_rfl) (fun _ _ _ _ h=>h) R (jb (x:=(.tv (kInt .i64) (rd (0:Int) list1 t18))) (ja R)) ?_
           refine AtH.take [0] hgd 2 R R R R (D':=#[Y,Y,Y,N,N,N,N,N,N,N]) (by kernel_rfl) (fun _ _ _ _ h=>h) R (jx zSegment (ja R) (ja R) Tryz.underlying27 ty_39 hq58) ?_
           refine AtH.take [0] hgd 3 R R R R (D':=#[Y,Y,Y,Y,N,N,N,N,N,N]) (by kernel_rfl) (fun _ _ _ _ h=>h) R (vi (K:=kSegment) (ja R) ty_39) ?_
           refine AtH.take [0] hgd 4 R R R R (D':=#[Y,Y,Y,Y,Y,N,N,N,N,N]) (by kernel_rfl) (fun _ _ _ _ h=>h) R (jb (x:=(.tv (kSlice kSegment) all1)) (ja R)) ?_
           refine AtH.take [0] hgd 5 R R R R (D':=#[Y,Y,Y,Y,Y,Y,N,N,N,N]) (by kernel_rfl) (fun _ _ _ _ h=>h) R (jb (x:=(.tv (kInt .i64) (rd (0:Int) (cut_l list1 (w64 (t18+(1:Int)))) t24))) (ja R)) ?_
           refine AtH.take [0] hgd 6 R R R R (D':=#[Y,Y,Y,Y,Y,Y,Y,N,N,N]) (by kernel_rfl) (fun _ _ _ _ h=>h) R (jx zSegment (ja R) (ja R) Tryz.underlying27 ty_39 hq59) ?_
           refine AtH.take [0] hgd 7 R R R R (D':=#[Y,Y,Y,Y,Y,Y,Y,Y,N,N]) (by kernel_rfl) (fun _ _ _ _ h=>h) R (vi (K:=kSegment) (ja R) ty_39) ?_
           refine AtH.all1 8 (by kernel_rfl) ?_
           refine AtH.f [(0,0)] R R R R R R (jm R R jo (jp R en_23 (jf (ja R) (jf (ja R) jg))) (geom_Meets.ok hF) (by rintro _ _ ⟨r,_,rfl,_⟩;exact flat_int)) (D':=#[Y,Y,Y,Y,Y,Y,Y,Y,Y,N]) (by kernel_rfl) (by kernel_rfl) ?_
           rintro _ _ ⟨_,_,⟨r12,hF,rfl,rfl⟩,rfl,rfl⟩
           refine ⟨_,.inr ⟨R,flat_int⟩,?_⟩
           refine AtH.take [0] hgd 9 R R R R (D':=#[Y,Y,Y,Y,Y,Y,Y,Y,Y,Y]) (by kernel_rfl) (fun _ _ _ _ h=>h) R (jd (x:=(.tv (kInt .i64) r12)) (ja R)) ?_
           refine AtH.done (by kernel_rfl) ?_
           refine At.jy (At.seq (At.region (At.d R R R R (jb (x:=(.tv (kInt .i64) r12)) (ja R)) ?_)))
           refine At.d R R R R (jj (ja R) (ji _ _) bin_neq) ?_
           refine At.done (At.jy ?_)
           refine At.cond (ja R) (fun hb35=>?_) (fun hb35=>?_)
           ·replace hF:=W.ite_t hb35 hF
            refine At.region (At.d R R R R (jb (x:=(.eq (.map (some g1)))) (ja R)) ?_)
            refine At.d R R R R (jb (x:=(.tv (kInt .i64) (rd (0:Int) list1 t18))) (ja R)) ?_
            refine At.d R R R R (jb (x:=(.tv (kInt .i64) (rd (0:Int) (cut_l list1 (w64 (t18+(1:Int)))) t24))) (ja R)) ?_
            refine At.d R R R R (does_build (jq (ja R) (jq (ja R) parts_nil)) zr_92 bd_92 R (fills_cons R sub_a92_0 (fills_cons R sub_a92_1 fills_nil))) ?_
            refine At.d R R R R (jb (x:=(.tv (kInt .i64) r12)) (ja R)) ?_
            refine At.f R (eff_mapUpdate R R (ja R) 0 R mt_90 (ja R) (ja R)) ?_
            rintro _ _ ⟨rfl,rfl⟩
            refine At.done ?_
            refine At.n ?_
            refine At.jy (At.region (At.d R R R R (jj (ja R) (ji _ _) jv) ?_))
            refine At.d R R R R (jb (x:=(.tv (kInt .i64) (w64 (t24+(1:Int))))) (ja R)) ?_
            refine At.done (At.jy ?_)
            refine At.w [0] R [(0,(.tv (kSlice kSegment) all1)),(1,(.tv (kSlice (kInt .i64)) list1)),(2,(.eq (.map (some g1)))),(22,(.tv (kInt .i64) (rd (0:Int) list1 t18))),(174,(.tv (kSlice (kInt .i64)) list1)),(175,(.tv (kInt .i64) (list1.length:Int))),(176,(.tv (kInt .i64) t18)),(184,(.tv (kSlice (kInt .i64)) (cut_l list1 (w64 (t18+(1:Int)))))),(185,(.tv (kInt .i64) ((cut_l list1 (w64 (t18+(1:Int)))).length:Int))),(186,(.tv (kInt .i64) (w64 (t24+(1:Int)))))] ⟨R,R,R,R,R,R,R,R,R,R,trivial⟩ (At.r ⟨(mset ((rd (0:Int) list1 t18),(rd (0:Int) (cut_l list1 (w64 (t18+(1:Int)))) t24)) r12 x36),(w64 (t24+(1:Int))),hF,R,R⟩)
           ·replace hF:=W.ite_f hb35 hF
            refine At.skip ?_
            refine At.n ?_
            refine At.jy (At.region (At.d R R R R (jj (ja R) (ji _ _) jv) ?_))
            refine At.d R R R R (jb (x:=(.tv (kInt .i64) (w64 (t24+(1:Int))))) (ja R)) ?_
            refine At.done (At.jy ?_)
            refine At.w [0] R [(0,(.tv (kSlice kSegment) all1)),(1,(.tv (kSlice (kInt .i64)) list1)),(2,(.eq (.map (some g1)))),(22,(.tv (kInt .i64) (rd (0:Int) list1 t18))),(174,(.tv (kSlice (kInt .i64)) list1)),(175,(.tv (kInt .i64) (list1.length:Int))),(176,(.tv (kInt .i64) t18)),(184,(.tv (kSlice (kInt .i64)) (cut_l list1 (w64 (t18+(1:Int)))))),(185,(.tv (kInt .i64) ((cut_l list1 (w64 (t18+(1:Int)))).length:Int))),(186,(.tv (kInt .i64) (w64 (t24+(1:Int)))))] ⟨R,R,R,R,R,R,R,R,R,R,trivial⟩ (At.r ⟨x36,(w64 (t24+(1:Int))),hF,R,R⟩)
          ·replace hF:=W.ite_f hb34 hF
           refine At.exit ?_
           refine At.x (At.x ?_)
           refine At.h ?_
           refine At.n ?_
           refine At.jy ?_
           refine At.w [0] R [(0,(.tv (kSlice kSegment) all1)),(1,(.tv (kSlice (kInt .i64)) list1)),(2,(.eq (.map (some g1)))),(174,(.tv (kSlice (kInt .i64)) list1)),(175,(.tv (kInt .i64) (list1.length:Int))),(176,(.tv (kInt .i64) t18))] ⟨R,R,R,R,R,R,trivial⟩ (At.r ⟨x36,hF,R,R⟩)
        ·rintro _ _ ⟨x33,hF,rfl,rfl⟩
         unfold vg.c4 at hF
         refine At.region (At.d R R R R (jj (ja R) (ji _ _) jv) ?_)
         refine At.d R R R R (jb (x:=(.tv (kInt .i64) (w64 (t18+(1:Int))))) (ja R)) ?_
         refine At.done (At.jy ?_)
         refine At.w [0] R [(0,(.tv (kSlice kSegment) all1)),(1,(.tv (kSlice (kInt .i64)) list1)),(2,(.eq (.map (some g1)))),(174,(.tv (kSlice (kInt .i64)) list1)),(175,(.tv (kInt .i64) (list1.length:Int))),(176,(.tv (kInt .i64) (w64 (t18+(1:Int)))))] ⟨R,R,R,R,R,R,trivial⟩ (At.r ⟨x33,(w64 (t18+(1:Int))),hF,R,R⟩)
       ·replace hF:=W.ite_f hb25 hF
        refine At.exit ?_
        refine At.x (At.x ?_)
        refine At.h ?_
        refine At.norm ?_
        exact At.ret_0 rfl  [0] rfl ⟨x29,hF,rfl,rfl⟩
theorem vg.ok {all1:(List Segment)} {list1:(List Int)} {found1:(List ((Int×Int)×Int))} {g1:Nat} {Q:(List ((Int×Int)×Int))→Prop} (hF:vg.F all1 list1 found1 Q):Con Tryz.prog 37 [.tv (kSlice kSegment) all1,.tv (kSlice (kInt .i64)) list1,.eq (.map (some g1))] [.map g1 (kPair (kInt .i64) (kInt .i64)) (kInt .i64) found1] (fun ta rs'=>∃ (r:(List ((Int×Int)×Int))),Q r∧ta=.eq (.tuple #[])∧rs'=[.map g1 (kPair (kInt .i64) (kInt .i64)) (kInt .i64) r]):=by
 obtain ⟨n,hF⟩:=hF
 exact vg.okn n hF
def border_of.c1 (m1:Map) (x4:(List (BA×Int))):W (border_parcel×Bool):=W.ret (({ (⟨m1,([]:List (BA×Int))⟩:border_parcel) with at_:=x4 }:border_parcel),true)
def border_of.l1 (m1:Map) (K1:(List (BA×Int))→W (border_parcel×Bool)) (A1:(List (BA×Int))→Int→W (border_parcel×Bool)) (x7:(List (BA×Int))) (t6:Int):W (border_parcel×Bool):=W.ite (decide (t6<(m1.Objects.length:Int))) (W.req (0≤t6∧t6<(m1.Objects.length:Int)) (A1 (mset ((rd zObject m1.Objects t6).Id) t6 x7) (w64 (t6+(1:Int))))) (K1 x7)
def border_of.F (m1:Map):W (border_parcel×Bool):=W.bind (atlas_Valid.F m1) (fun r1=>W.ite (!r1) (W.ret ((⟨zMap,([]:List (BA×Int))⟩:border_parcel),false)) (W.ex fun n=>W.iter2 (border_of.l1 m1 (border_of.c1 m1)) n ([]:(List (BA×Int))) (0:Int)))
theorem border_of.ok {m1:Map} {Q:(border_parcel×Bool)→Prop} (hF:border_of.F m1 Q):Con Tryz.prog 30 [.tv kMap m1] [] (fun ta rs'=>∃ (r:(border_parcel×Bool)),Q r∧ta=.tup2 (.tv kborder_parcel r.1) (.tv kBool r.2)∧rs'=[]):=by
 refine Con.i Tryz.func30 Tryz.ntmps30 R R (fun C=>?_)
 unfold border_of.F at hF
 refine At.seq (At.region (At.f R (eff_box R R R (ja R)) ?_))
 rintro _ _ ⟨g1,rfl,rfl⟩
 refine At.f R (eff_alloc R R R tz_76) ?_
 rintro _ _ ⟨g2,rfl,rfl⟩
 refine At.d R R R R (jd (x:=(.tv kBool false)) (jk _)) ?_
 refine At.done (At.jy (At.seq (At.seq (At.region (At.d R R R R (jc (ja R) 1 R (Sub.self kMap) ty_24) ?_)))))
 replace hF:=W.ve hF
 refine At.f R (jm R R jo (jp R en_20 (jf (ja R) jg)) (atlas_Valid.ok hF) (by rintro _ _ ⟨r,_,rfl,_⟩;exact vd)) ?_
 rintro _ _ ⟨_,_,⟨r1,hF,rfl,rfl⟩,rfl,rfl⟩
 refine At.d R R R R (does_not (ja R)) ?_
 refine At.done (At.jy ?_)
 refine At.cond (ja R) (fun hb1=>?_) (fun hb1=>?_)
 ·replace hF:=W.ite_t hb1 hF
  refine At.seq (At.region (At.d R R R R (does_build parts_nil zr_76 bd_76 R fills_nil) ?_))
  refine At.f R (ju R R (ja R) 0 R (Sub.self kborder_parcel) ty_76 (ja R)) ?_
  rintro _ _ ⟨rfl,rfl⟩
  refine At.d R R R R (jd (x:=(.tv kBool false)) (jk _)) ?_
  refine At.done (At.jy (At.ret (At.jz ?_)))
  exact At.ret_2 rfl (rv_cell rfl 0 rfl ty_76) (rv_tmp rfl) [] rfl ⟨((⟨zMap,([]:List (BA×Int))⟩:border_parcel),false),hF,rfl,rfl⟩
 ·replace hF:=W.ite_f hb1 hF
  refine At.skip (At.jy (At.seq (At.region (At.d R R R R (jc (ja R) 1 R (Sub.self kMap) ty_24) ?_))))
  refine At.f R (eff_makeMap R R R kStr (kInt .i64)) ?_
  rintro _ _ ⟨g3,rfl,rfl⟩
  refine At.d R R R R (does_build (K:=(kPair kMap kRaw)) (z:=(zborder_parcel.m,(.map none))) (y:=((⟨m1,([]:List (BA×Int))⟩:border_parcel).m,(.map (some g3)))) (jq (ja R) (jq (opd_raw (ja R) R) parts_nil)) (fun φ=>⟨[.slice none 0 0],[.map none],R,⟨none,0,R,Nat.le_refl _,by simp [maxLen],fun h=>absurd R h⟩,⟨R,R⟩⟩) bd_76 R (fills_cons R (Sub.fst (Sub.self kMap)) (fills_cons R (Sub.snd (Sub.self kRaw)) fills_nil))) ?_
  refine At.f R (eff_alloc R R R tz_76) ?_
  rintro _ _ ⟨g4,rfl,rfl⟩
  refine At.f R (eff_store_swap (K':=(kPair kMap kRaw)) (x':=((⟨m1,([]:List (BA×Int))⟩:border_parcel).m,(.map (some g3)))) R R (ja R) 0 R (Swap.whole R) (Ty.turn ty_76 R R) (ja R)) ?_
  rintro _ _ ⟨rfl,rfl⟩
  refine At.done (At.jy ?_)
  refine At.cut (fun rs L=>∃ (x4:(List (BA×Int))),border_of.c1 m1 x4 Q∧rs=[.box g2 76 kborder_parcel zborder_parcel,.box g4 76 (kPair kMap kRaw) ((⟨m1,([]:List (BA×Int))⟩:border_parcel).m,(.map (some g3))),.map g3 kStr (kInt .i64) x4]∧L=mkL [(2,(.eq (.pointer (some ⟨g2,0,none⟩)))),(4,(.eq (.pointer (some ⟨g4,0,none⟩))))]) ?_ ?_
  ·refine At.seq (At.region (At.d R R R R (je (ja R) fa_24_0) ?_))
   refine At.d R R R R (jc (ja R) 3 R sub_Map_0 ty_22) ?_
   refine At.d R R R R (jr (ja R) Tryz.underlying22) ?_
   refine At.d R R R R (jb (x:=(.tv (kInt .i64) (0:Int))) (ji _ _)) ?_
   refine At.done (At.jy (At.block ?_))
   obtain ⟨n1,hF⟩:=hF
   refine At.w [2,0,1] R [(2,(.eq (.pointer (some ⟨g2,0,none⟩)))),(4,(.eq (.pointer (some ⟨g4,0,none⟩)))),(15,(.tv (kSlice kObject) m1.Objects)),(16,(.tv (kInt .i64) (m1.Objects.length:Int))),(17,(.tv (kInt .i64) (0:Int)))] ⟨R,R,R,R,R,trivial⟩ ?_
   refine At.loop (fun m rs L=>∃ (x7:(List (BA×Int))) (t6:Int),W.iter2 (border_of.l1 m1 (border_of.c1 m1)) m x7 t6 Q∧rs=[.box g2 76 kborder_parcel zborder_parcel,.box g4 76 (kPair kMap kRaw) ((⟨m1,([]:List (BA×Int))⟩:border_parcel).m,(.map (some g3))),.map g3 kStr (kInt .i64) x7]∧L=mkL [(2,(.eq (.pointer (some ⟨g2,0,none⟩)))),(4,(.eq (.pointer (some ⟨g4,0,none⟩)))),(15,(.tv (kSlice kObject) m1.Objects)),(16,(.tv (kInt .i64) (m1.Objects.length:Int))),(17,(.tv (kInt .i64) t6))]) ?_ ?_ (m:=n1) ⟨([]:(List (BA×Int))),(0:Int),hF,R,R⟩
   ·rintro rs L ⟨_,_,hF,_,_⟩;exact hF
   ·rintro m2 _ _ ⟨x7,t6,hF,rfl,rfl⟩
    replace hF:=W.iter2_s hF
    unfold border_of.l1 at hF
    refine At.seq (At.region (At.d R R R R (jj (ja R) (ja R) jw) ?_))
    refine At.done (At.jy (At.seq ?_))
    refine At.cond (ja R) (fun hb6=>?_) (fun hb6=>?_)
    ·replace hF:=W.ite_t hb6 hF
     refine At.skip (At.jy (At.seq (At.block (At.seq (At.region (At.d R R R R (jb (x:=(.tv (kInt .i64) t6)) (ja R)) ?_))))))
     obtain ⟨hq5,hF⟩:=hF
     refine At.d R R R R (jx zObject (ja R) (ja R) Tryz.underlying22 ty_59 hq5) ?_
     refine At.d R R R R (vi (K:=kObject) (ja R) ty_59) ?_
     refine At.f R (eff_alloc R R R tz_59) ?_
     rintro _ _ ⟨g9,rfl,rfl⟩
     refine At.d R R R R (jd (x:=(.tv (kInt .i64) t6)) (ja R)) ?_
     refine At.f R (ju R R (ja R) 0 R (Sub.self kObject) ty_59 (ja R)) ?_
     rintro _ _ ⟨rfl,rfl⟩
     refine At.done (At.jy (At.region (At.d R R R R (je (ja R) fa_76_1) ?_)))
     refine At.d R R R R (does_load_raw (ja R) 2 R (Sub.snd (Sub.self kRaw)) tyr_74 R) ?_
     refine At.d R R R R (je (ja R) fa_59_0) ?_
     refine At.d R R R R (jc (ja R) 0 R sub_Object_0 ty_9) ?_
     refine At.d R R R R (jb (x:=(.tv (kInt .i64) t6)) (ja R)) ?_
     refine At.f R (eff_mapUpdate R R (ja R) 3 R mt_74 (ja R) (ja R)) ?_
     rintro _ _ ⟨rfl,rfl⟩
     refine At.done ?_
     refine At.n ?_
     refine At.jy (At.region (At.d R R R R (jj (ja R) (ji _ _) jv) ?_))
     refine At.d R R R R (jb (x:=(.tv (kInt .i64) (w64 (t6+(1:Int))))) (ja R)) ?_
     refine At.done (At.jy ?_)
     refine At.w [1,2,3] R [(2,(.eq (.pointer (some ⟨g2,0,none⟩)))),(4,(.eq (.pointer (some ⟨g4,0,none⟩)))),(15,(.tv (kSlice kObject) m1.Objects)),(16,(.tv (kInt .i64) (m1.Objects.length:Int))),(17,(.tv (kInt .i64) (w64 (t6+(1:Int)))))] ⟨R,R,R,R,R,trivial⟩ (At.r ⟨(mset ((rd zObject m1.Objects t6).Id) t6 x7),(w64 (t6+(1:Int))),hF,R,R⟩)
    ·replace hF:=W.ite_f hb6 hF
     refine At.exit ?_
     refine At.x (At.x ?_)
     refine At.h ?_
     refine At.jy ?_
     refine At.w [0,1,2] R [(2,(.eq (.pointer (some ⟨g2,0,none⟩)))),(4,(.eq (.pointer (some ⟨g4,0,none⟩))))] ⟨R,R,trivial⟩ (At.r ⟨x7,hF,R,R⟩)
  ·rintro _ _ ⟨x4,hF,rfl,rfl⟩
   unfold border_of.c1 at hF
   refine At.seq (At.region (At.d R R R R (jc (ja R) 1 R (Sub.self (kPair kMap kRaw)) (Ty.turn ty_76 R R)) ?_))
   refine At.f R (eff_store_swap (K':=(kPair kMap kRaw)) (x':=((⟨m1,([]:List (BA×Int))⟩:border_parcel).m,(.map (some g3)))) R R (ja R) 0 R (Swap.whole R) (Ty.turn ty_76 R R) (ja R)) ?_
   rintro _ _ ⟨rfl,rfl⟩
   refine At.d R R R R (jd (x:=(.tv kBool true)) (jk _)) ?_
   refine At.done (At.jy (At.ret ?_))
   refine At.mapfreeze 2 [] R trivial ?_
   refine At.boxtold 0 (K':=kborder_parcel) (y:=({ (⟨m1,([]:List (BA×Int))⟩:border_parcel) with at_:=x4 }:border_parcel)) R (Turn.isoR (Turn.pair (Turn.refl _ _) (Turn.fmap (j:=2) R))) ?_
   refine At.boxtold 1 (K':=kborder_parcel) (y:=({ (⟨m1,([]:List (BA×Int))⟩:border_parcel) with at_:=x4 }:border_parcel)) R (Turn.isoR (Turn.pair (Turn.refl _ _) (Turn.fmap (j:=2) R))) ?_
   refine At.slottold 28 (K':=kborder_parcel) (y:=({ (⟨m1,([]:List (BA×Int))⟩:border_parcel) with at_:=x4 }:border_parcel)) R (Turn.isoR (Turn.pair (Turn.refl _ _) (Turn.fmap (j:=2) R))) R ?_
   exact At.ret_2 rfl (rv_cell rfl 0 rfl ty_76) (rv_tmp rfl) [] rfl ⟨(({ (⟨m1,([]:List (BA×Int))⟩:border_parcel) with at_:=x4 }:border_parcel),true),hF,rfl,rfl⟩
def border_parcel_nodes_1__p.F (id1:BA) (t1:border_parcel):W Bool:=W.req ((!(!(mhas id1 t1.at_)))=true→0≤(mget id1 (0:Int) t1.at_)∧(mget id1 (0:Int) t1.at_)<(t1.m.Objects.length:Int)) (W.ret ((!(mhas id1 t1.at_))||(((rd zObject t1.m.Objects (mget id1 (0:Int) t1.at_)).Kind) != (1:Int))))
theorem border_parcel_nodes_1__p.ok {id1:BA} {t1:border_parcel} {Q:Bool→Prop} (hF:border_parcel_nodes_1__p.F id1 t1 Q):Con Tryz.prog 101 [.tv kStr id1,.ptr kborder_parcel t1] [] (fun ta rs'=>∃ (r:Bool),Q r∧ta=.tv kBool r∧rs'=[]):=by
 refine Con.i Tryz.func101 Tryz.ntmps101 R R (fun C=>?_)
 unfold border_parcel_nodes_1__p.F at hF
 refine At.seq (At.region (At.d R R R R (jd (x:=(.tv kBool false)) (jk _)) ?_))
 refine At.done (At.jy (At.seq (At.region (At.d R R R R (vq (K:=kborder_parcel) (ja R) fa_76_1 sub_border_parcel_1) ?_))))
 refine At.d R R R R (vi (K:=(kMp kStr (kInt .i64))) (ja R) ty_74) ?_
 refine At.d R R R R (jb (x:=(.tv kStr id1)) (ja R)) ?_
 refine At.d R R R R (does_lookOkF (ja R) mt_74 (ja R)) ?_
 refine At.d R R R R (jb (x:=(.tup2 (.tv (kInt .i64) (mget id1 (0:Int) t1.at_)) (.tv kBool (mhas id1 t1.at_)))) (ja R)) ?_
 refine At.d R R R R (does_extract20 (ja R)) ?_
 refine At.d R R R R (does_extract21 (ja R)) ?_
 refine At.d R R R R (jd (x:=(.tv (kInt .i64) (mget id1 (0:Int) t1.at_))) (ja R)) ?_
 refine At.d R R R R (jd (x:=(.tv kBool (mhas id1 t1.at_))) (ja R)) ?_
 refine At.done (At.jy (At.seq (At.region (At.d R R R R (jb (x:=(.tv kBool (mhas id1 t1.at_))) (ja R)) ?_))))
 refine At.d R R R R (does_not (ja R)) ?_
 refine At.d R R R R (jb (x:=(.tv kBool (!(mhas id1 t1.at_)))) (ja R)) ?_
 refine At.vc R R R R (jt R) R (fun hg1=>(vq (K:=kborder_parcel) (ja R) fa_76_0 sub_border_parcel_0)) ?_
 refine At.vc R R R R (jt R) R (fun hg2=>(vq (K:=kMap) (jh R hg2) fa_24_0 sub_Map_0)) ?_
 refine At.vc R R R R (jt R) R (fun hg3=>(vi (K:=(kSlice kObject)) (jh R hg3) ty_22)) ?_
 refine At.vc R R R R (jt R) R (fun hg4=>(jb (x:=(.tv (kInt .i64) (mget id1 (0:Int) t1.at_))) (ja R))) ?_
 obtain ⟨hq1,hF⟩:=hF
 refine At.vc R R R R (jt R) R (fun hg5=>(jx zObject (jh R hg5) (jh R hg5) Tryz.underlying22 ty_59 (hq1 hg5))) ?_
 refine At.vc R R R R (jt R) R (fun hg6=>(vq (K:=kObject) (jh R hg6) fa_59_1 sub_Object_1)) ?_
 refine At.vc R R R R (jt R) R (fun hg7=>(vi (K:=(kInt .i64)) (jh R hg7) ty_3)) ?_
 refine At.vc R R R R (jt R) R (fun hg8=>(jj (jh R hg8) (ji _ _) bin_neq)) ?_
 refine At.d R R R R (jl (ja R) (jk _) (ja R) pick_or) ?_
 refine At.d R R R R (jd (x:=(.tv kBool ((!(mhas id1 t1.at_))||(((rd zObject t1.m.Objects (mget id1 (0:Int) t1.at_)).Kind) != (1:Int))))) (ja R)) ?_
 refine At.done (At.jy (At.ret ?_))
 exact At.j rfl (rv_tmp rfl) [] rfl ⟨((!(mhas id1 t1.at_))||(((rd zObject t1.m.Objects (mget id1 (0:Int) t1.at_)).Kind) != (1:Int))),hF,rfl,rfl⟩
def vm.c1:W Int:=W.ret (-1:Int)
def vm.l1 (s1:(List BA)) (c1:border_parcel) (K1:W Int) (A1:Int→W Int) (t6:Int):W Int:=W.ite (decide (t6<(s1.length:Int))) (W.req (0≤t6∧t6<(s1.length:Int)) (W.bind (border_parcel_nodes_1__p.F (rd (⟨#[]⟩:BA) s1 t6) c1) (fun r5=>W.ite r5 (W.ret t6) (A1 (w64 (t6+(1:Int))))))) (K1)
def vm.F (s1:(List BA)) (c1:border_parcel):W Int:=W.ex fun n=>W.iter1 (vm.l1 s1 c1 (vm.c1)) n (0:Int)
theorem vm.ok {s1:(List BA)} {c1:border_parcel} {Q:Int→Prop} (hF:vm.F s1 c1 Q):Con Tryz.prog 131 [.tv (kSlice kStr) s1,.cls 101 0 (tupl [.ptr kborder_parcel c1])] [] (fun ta rs'=>∃ (r:Int),Q r∧ta=.tv (kInt .i64) r∧rs'=[]):=by
 refine Con.i Tryz.func131 Tryz.ntmps131 R R (fun C=>?_)
 unfold vm.F at hF
 refine At.seq (At.region (At.d R R R R (jd (x:=(.tv (kInt .i64) (0:Int))) (ji _ _)) ?_))
 refine At.done (At.jy ?_)
 refine At.cut (fun rs L=>∃ _:Unit,vm.c1 Q∧rs=[]∧L=mkL []) ?_ ?_
 ·refine At.seq (At.region (At.d R R R R (jb (x:=(.tv (kSlice kStr) s1)) (ja R)) ?_))
  refine At.d R R R R (jr (ja R) Tryz.underlying41) ?_
  refine At.d R R R R (jb (x:=(.tv (kInt .i64) (0:Int))) (ji _ _)) ?_
  refine At.done (At.jy (At.block ?_))
  obtain ⟨n1,hF⟩:=hF
  refine At.w [] R [(0,(.tv (kSlice kStr) s1)),(1,(.cls 101 0 (tupl [(.ptr kborder_parcel c1)]))),(7,(.tv (kInt .i64) (s1.length:Int))),(8,(.tv (kInt .i64) (0:Int)))] ⟨R,R,R,R,trivial⟩ ?_
  refine At.loop (fun m rs L=>∃ (t6:Int),W.iter1 (vm.l1 s1 c1 (vm.c1)) m t6 Q∧rs=[]∧L=mkL [(0,(.tv (kSlice kStr) s1)),(1,(.cls 101 0 (tupl [(.ptr kborder_parcel c1)]))),(7,(.tv (kInt .i64) (s1.length:Int))),(8,(.tv (kInt .i64) t6))]) ?_ ?_ (m:=n1) ⟨(0:Int),hF,R,R⟩
  ·rintro rs L ⟨_,hF,_,_⟩;exact hF
  ·rintro m1 _ _ ⟨t6,hF,rfl,rfl⟩
   replace hF:=W.iter1_s hF
   unfold vm.l1 at hF
   refine At.seq (At.region (At.d R R R R (jj (ja R) (ja R) jw) ?_))
   refine At.done (At.jy (At.seq ?_))
   refine At.cond (ja R) (fun hb9=>?_) (fun hb9=>?_)
   ·replace hF:=W.ite_t hb9 hF
    refine At.skip (At.jy (At.seq (At.block (At.seq (At.region (At.d R R R R (jb (x:=(.tv (kInt .i64) t6)) (ja R)) ?_))))))
    refine At.d R R R R (jd (x:=(.tv (kInt .i64) t6)) (ja R)) ?_
    refine At.done (At.jy (At.seq (At.region (At.d R R R R (jb (x:=(.cls 101 0 (tupl [(.ptr kborder_parcel c1)]))) (ja R)) ?_))))
    refine At.d R R R R (jb (x:=(.tv (kSlice kStr) s1)) (ja R)) ?_
    refine At.d R R R R (jb (x:=(.tv (kInt .i64) t6)) (ja R)) ?_
    obtain ⟨hq5,hF⟩:=hF
    refine At.d R R R R (jx (⟨#[]⟩:BA) (ja R) (ja R) Tryz.underlying41 ty_9 hq5) ?_
    refine At.d R R R R (vi (K:=kStr) (ja R) ty_9) ?_
    replace hF:=W.ve hF
    refine At.f R (jm R R jo (ent_val0 R (ja R) en_101 (jf (ja R) jg)) (border_parcel_nodes_1__p.ok hF) (by rintro _ _ ⟨r,_,rfl,_⟩;exact vd)) ?_
    rintro _ _ ⟨_,_,⟨r5,hF,rfl,rfl⟩,rfl,rfl⟩
    refine At.done (At.jy ?_)
    refine At.cond (ja R) (fun hb10=>?_) (fun hb10=>?_)
    ·replace hF:=W.ite_t hb10 hF
     refine At.seq (At.region (At.d R R R R (jb (x:=(.tv (kInt .i64) t6)) (ja R)) ?_))
     refine At.d R R R R (jd (x:=(.tv (kInt .i64) t6)) (ja R)) ?_
     refine At.done (At.jy (At.ret ?_))
     refine At.q ?_
     refine At.jz (At.jz ?_)
     refine At.q ?_
     refine At.jz ?_
     exact At.j rfl (rv_tmp rfl) [] rfl ⟨t6,hF,rfl,rfl⟩
    ·replace hF:=W.ite_f hb10 hF
     refine At.skip ?_
     refine At.n ?_
     refine At.jy (At.region (At.d R R R R (jj (ja R) (ji _ _) jv) ?_))
     refine At.d R R R R (jb (x:=(.tv (kInt .i64) (w64 (t6+(1:Int))))) (ja R)) ?_
     refine At.done (At.jy ?_)
     refine At.w [] R [(0,(.tv (kSlice kStr) s1)),(1,(.cls 101 0 (tupl [(.ptr kborder_parcel c1)]))),(7,(.tv (kInt .i64) (s1.length:Int))),(8,(.tv (kInt .i64) (w64 (t6+(1:Int)))))] ⟨R,R,R,R,trivial⟩ (At.r ⟨(w64 (t6+(1:Int))),hF,R,R⟩)
   ·replace hF:=W.ite_f hb9 hF
    refine At.exit ?_
    refine At.x (At.x ?_)
    refine At.h ?_
    refine At.jy ?_
    refine At.w [] R [] trivial (At.r ⟨(),hF,R,R⟩)
 ·rintro _ _ ⟨_,hF,rfl,rfl⟩
  unfold vm.c1 at hF
  refine At.seq (At.region (At.d R R R R (jd (x:=(.tv (kInt .i64) (-1:Int))) (ji _ _)) ?_))
  refine At.done (At.jy (At.ret ?_))
  exact At.j rfl (rv_tmp rfl) [] rfl ⟨(-1:Int),hF,rfl,rfl⟩
def Ja.F (s1:(List BA)) (c1:border_parcel):W Bool:=W.bind (vm.F s1 c1) (fun r1=>W.ret (decide ((0:Int)≤r1)))
theorem Ja.ok {s1:(List BA)} {c1:border_parcel} {Q:Bool→Prop} (hF:Ja.F s1 c1 Q):Con Tryz.prog 85 [.tv (kSlice kStr) s1,.cls 101 0 (tupl [.ptr kborder_parcel c1])] [] (fun ta rs'=>∃ (r:Bool),Q r∧ta=.tv kBool r∧rs'=[]):=by
 refine Con.i Tryz.func85 Tryz.ntmps85 R R (fun C=>?_)
 unfold Ja.F at hF
 refine At.seq (At.region (At.d R R R R (jd (x:=(.tv kBool false)) (jk _)) ?_))
 refine At.done (At.jy (At.seq (At.region (At.d R R R R (jb (x:=(.tv (kSlice kStr) s1)) (ja R)) ?_))))
 refine At.d R R R R (jb (x:=(.cls 101 0 (tupl [(.ptr kborder_parcel c1)]))) (ja R)) ?_
 replace hF:=W.ve hF
 refine At.f R (jm R R jo (jp R en_131 (jf (ja R) (jf (ja R) jg))) (vm.ok hF) (by rintro _ _ ⟨r,_,rfl,_⟩;exact flat_int)) ?_
 rintro _ _ ⟨_,_,⟨r1,hF,rfl,rfl⟩,rfl,rfl⟩
 refine At.d R R R R (jj (ja R) (ji _ _) bin_geq) ?_
 refine At.d R R R R (jd (x:=(.tv kBool (decide ((0:Int)≤r1)))) (ja R)) ?_
 refine At.done (At.jy (At.ret ?_))
 exact At.j rfl (rv_tmp rfl) [] rfl ⟨(decide ((0:Int)≤r1)),hF,rfl,rfl⟩
def border_parcel_nodes.F (p1:border_parcel) (o1:Object):W Bool:=W.bind (Ja.F o1.Refs p1) (fun r1=>W.ret (!r1))
theorem border_parcel_nodes.ok {p1:border_parcel} {o1:Object} {Q:Bool→Prop} (hF:border_parcel_nodes.F p1 o1 Q):Con Tryz.prog 65 [.tv kborder_parcel p1,.tv kObject o1] [] (fun ta rs'=>∃ (r:Bool),Q r∧ta=.tv kBool r∧rs'=[]):=by
 refine Con.i Tryz.func65 Tryz.ntmps65 R R (fun C=>?_)
 unfold border_parcel_nodes.F at hF
 refine At.seq (At.region (At.f R (eff_box R R R (ja R)) ?_))
 rintro _ _ ⟨g1,rfl,rfl⟩
 refine At.f R (eff_box R R R (ja R)) ?_
 rintro _ _ ⟨g2,rfl,rfl⟩
 refine At.d R R R R (jd (x:=(.tv kBool false)) (jk _)) ?_
 refine At.done (At.jy (At.seq (At.region (At.d R R R R (je (ja R) fa_59_3) ?_))))
 refine At.d R R R R (jc (ja R) 0 R sub_Object_3 ty_41) ?_
 refine At.d R R R R (does_cls (firsts:=[]) (caps:=[.tmp 2]) R (jf (ja R) jg)) ?_
 replace hF:=W.ve hF
 refine At.f R (jm R R (lends_box 1 7 R R (lend1_cls (lend1_here lend1_ptr)) jo) (jp R en_85 (jf (ja R) (jf (ja R) jg))) (Ja.ok hF) (by rintro _ _ ⟨r,_,rfl,_⟩;exact vd)) ?_
 rintro _ _ ⟨_,_,⟨r1,hF,rfl,rfl⟩,rfl,rfl⟩
 refine At.d R R R R (does_not (ja R)) ?_
 refine At.d R R R R (jd (x:=(.tv kBool (!r1))) (ja R)) ?_
 refine At.done (At.jy (At.ret ?_))
 exact At.j rfl (rv_tmp rfl) [] rfl ⟨(!r1),hF,rfl,rfl⟩
def vw.c1:W Int:=W.ret (-1:Int)
def vw.l1 (s1:(List BA)) (v1:BA) (K1:W Int) (A1:Int→W Int) (t6:Int):W Int:=W.ite (decide (t6<(s1.length:Int))) (W.req (0≤t6∧t6<(s1.length:Int)) (W.ite (sEq v1 (rd (⟨#[]⟩:BA) s1 t6)) (W.ret t6) (A1 (w64 (t6+(1:Int)))))) (K1)
def vw.F (s1:(List BA)) (v1:BA):W Int:=W.ex fun n=>W.iter1 (vw.l1 s1 v1 (vw.c1)) n (0:Int)
theorem vw.ok {s1:(List BA)} {v1:BA} {Q:Int→Prop} (hF:vw.F s1 v1 Q):Con Tryz.prog 69 [.tv (kSlice kStr) s1,.tv kStr v1] [] (fun ta rs'=>∃ (r:Int),Q r∧ta=.tv (kInt .i64) r∧rs'=[]):=by
 refine Con.i Tryz.func69 Tryz.ntmps69 R R (fun C=>?_)
 unfold vw.F at hF
 refine At.seq (At.region (At.d R R R R (jd (x:=(.tv (kInt .i64) (0:Int))) (ji _ _)) ?_))
 refine At.done (At.jy ?_)
 refine At.cut (fun rs L=>∃ _:Unit,vw.c1 Q∧rs=[]∧L=mkL []) ?_ ?_
 ·refine At.seq (At.region (At.d R R R R (jb (x:=(.tv (kSlice kStr) s1)) (ja R)) ?_))
  refine At.d R R R R (jr (ja R) Tryz.underlying41) ?_
  refine At.d R R R R (jb (x:=(.tv (kInt .i64) (0:Int))) (ji _ _)) ?_
  refine At.done (At.jy (At.block ?_))
  obtain ⟨n1,hF⟩:=hF
  refine At.w [] R [(0,(.tv (kSlice kStr) s1)),(1,(.tv kStr v1)),(7,(.tv (kInt .i64) (s1.length:Int))),(8,(.tv (kInt .i64) (0:Int)))] ⟨R,R,R,R,trivial⟩ ?_
  refine At.loop (fun m rs L=>∃ (t6:Int),W.iter1 (vw.l1 s1 v1 (vw.c1)) m t6 Q∧rs=[]∧L=mkL [(0,(.tv (kSlice kStr) s1)),(1,(.tv kStr v1)),(7,(.tv (kInt .i64) (s1.length:Int))),(8,(.tv (kInt .i64) t6))]) ?_ ?_ (m:=n1) ⟨(0:Int),hF,R,R⟩
  ·rintro rs L ⟨_,hF,_,_⟩;exact hF
  ·rintro m1 _ _ ⟨t6,hF,rfl,rfl⟩
   replace hF:=W.iter1_s hF
   unfold vw.l1 at hF
   refine At.seq (At.region (At.d R R R R (jj (ja R) (ja R) jw) ?_))
   refine At.done (At.jy (At.seq ?_))
   refine At.cond (ja R) (fun hb9=>?_) (fun hb9=>?_)
   ·replace hF:=W.ite_t hb9 hF
    refine At.skip (At.jy (At.seq (At.block (At.seq (At.region (At.d R R R R (jb (x:=(.tv (kInt .i64) t6)) (ja R)) ?_))))))
    refine At.d R R R R (jd (x:=(.tv (kInt .i64) t6)) (ja R)) ?_
    refine At.done (At.jy (At.seq (At.region (At.d R R R R (jb (x:=(.tv kStr v1)) (ja R)) ?_))))
    refine At.d R R R R (jb (x:=(.tv (kSlice kStr) s1)) (ja R)) ?_
    refine At.d R R R R (jb (x:=(.tv (kInt .i64) t6)) (ja R)) ?_
    obtain ⟨hq5,hF⟩:=hF
    refine At.d R R R R (jx (⟨#[]⟩:BA) (ja R) (ja R) Tryz.underlying41 ty_9 hq5) ?_
    refine At.d R R R R (vi (K:=kStr) (ja R) ty_9) ?_
    refine At.d R R R R (jj (ja R) (ja R) bin_seql) ?_
    refine At.done (At.jy ?_)
    refine At.cond (ja R) (fun hb10=>?_) (fun hb10=>?_)
    ·replace hF:=W.ite_t hb10 hF
     refine At.seq (At.region (At.d R R R R (jb (x:=(.tv (kInt .i64) t6)) (ja R)) ?_))
     refine At.d R R R R (jd (x:=(.tv (kInt .i64) t6)) (ja R)) ?_
     refine At.done (At.jy (At.ret ?_))
     refine At.q ?_
     refine At.jz (At.jz ?_)
     refine At.q ?_
     refine At.jz ?_
     exact At.j rfl (rv_tmp rfl) [] rfl ⟨t6,hF,rfl,rfl⟩
    ·replace hF:=W.ite_f hb10 hF
     refine At.skip ?_
     refine At.n ?_
     refine At.jy (At.region (At.d R R R R (jj (ja R) (ji _ _) jv) ?_))
     refine At.d R R R R (jb (x:=(.tv (kInt .i64) (w64 (t6+(1:Int))))) (ja R)) ?_
     refine At.done (At.jy ?_)
     refine At.w [] R [(0,(.tv (kSlice kStr) s1)),(1,(.tv kStr v1)),(7,(.tv (kInt .i64) (s1.length:Int))),(8,(.tv (kInt .i64) (w64 (t6+(1:Int)))))] ⟨R,R,R,R,trivial⟩ (At.r ⟨(w64 (t6+(1:Int))),hF,R,R⟩)
   ·replace hF:=W.ite_f hb9 hF
    refine At.exit ?_
    refine At.x (At.x ?_)
    refine At.h ?_
    refine At.jy ?_
    refine At.w [] R [] trivial (At.r ⟨(),hF,R,R⟩)
 ·rintro _ _ ⟨_,hF,rfl,rfl⟩
  unfold vw.c1 at hF
  refine At.seq (At.region (At.d R R R R (jd (x:=(.tv (kInt .i64) (-1:Int))) (ji _ _)) ?_))
  refine At.done (At.jy (At.ret ?_))
  exact At.j rfl (rv_tmp rfl) [] rfl ⟨(-1:Int),hF,rfl,rfl⟩
def vv.F (s1:(List BA)) (v1:BA):W Bool:=W.bind (vw.F s1 v1) (fun r1=>W.ret (decide ((0:Int)≤r1)))
theorem vv.ok {s1:(List BA)} {v1:BA} {Q:Bool→Prop} (hF:vv.F s1 v1 Q):Con Tryz.prog 36 [.tv (kSlice kStr) s1,.tv kStr v1] [] (fun ta rs'=>∃ (r:Bool),Q r∧ta=.tv kBool r∧rs'=[]):=by
 refine Con.i Tryz.func36 Tryz.ntmps36 R R (fun C=>?_)
 unfold vv.F at hF
 refine At.seq (At.region (At.d R R R R (jd (x:=(.tv kBool false)) (jk _)) ?_))
 refine At.done (At.jy (At.seq (At.region (At.d R R R R (jb (x:=(.tv (kSlice kStr) s1)) (ja R)) ?_))))
 refine At.d R R R R (jb (x:=(.tv kStr v1)) (ja R)) ?_
 replace hF:=W.ve hF
 refine At.f R (jm R R jo (jp R en_69 (jf (ja R) (jf (ja R) jg))) (vw.ok hF) (by rintro _ _ ⟨r,_,rfl,_⟩;exact flat_int)) ?_
 rintro _ _ ⟨_,_,⟨r1,hF,rfl,rfl⟩,rfl,rfl⟩
 refine At.d R R R R (jj (ja R) (ji _ _) bin_geq) ?_
 refine At.d R R R R (jd (x:=(.tv kBool (decide ((0:Int)≤r1)))) (ja R)) ?_
 refine At.done (At.jy (At.ret ?_))
 exact At.j rfl (rv_tmp rfl) [] rfl ⟨(decide ((0:Int)≤r1)),hF,rfl,rfl⟩
def cmp_isNaN_string.F (x1:BA):W Bool:=W.ret (!(sEq x1 x1))
theorem cmp_isNaN_string.ok {x1:BA} {Q:Bool→Prop} (hF:cmp_isNaN_string.F x1 Q):Con Tryz.prog 122 [.tv kStr x1] [] (fun ta rs'=>∃ (r:Bool),Q r∧ta=.tv kBool r∧rs'=[]):=by
 refine Con.i Tryz.func122 Tryz.ntmps122 R R (fun C=>?_)
 unfold cmp_isNaN_string.F at hF
 refine At.seq (At.region (At.d R R R R (jd (x:=(.tv kBool false)) (jk _)) ?_))
 refine At.done (At.jy (At.seq (At.region (At.d R R R R (jb (x:=(.tv kStr x1)) (ja R)) ?_))))
 refine At.d R R R R (jb (x:=(.tv kStr x1)) (ja R)) ?_
 refine At.d R R R R (jj (ja R) (ja R) bin_sneq) ?_
 refine At.d R R R R (jd (x:=(.tv kBool (!(sEq x1 x1)))) (ja R)) ?_
 refine At.done (At.jy (At.ret ?_))
 exact At.j rfl (rv_tmp rfl) [] rfl ⟨(!(sEq x1 x1)),hF,rfl,rfl⟩
def cmp_Compare_string.F (x1:BA) (y1:BA):W Int:=W.bind (cmp_isNaN_string.F x1) (fun r1=>W.bind (cmp_isNaN_string.F y1) (fun r2=>W.ite r1 (W.ite r2 (W.ret (0:Int)) (W.ret (-1:Int))) (W.ite r2 (W.ret (1:Int)) (W.ite (sLt x1 y1) (W.ret (-1:Int)) (W.ite (!(sLt x1 y1||sEq x1 y1)) (W.ret (1:Int)) (W.ret (0:Int)))))))
theorem cmp_Compare_string.ok {x1:BA} {y1:BA} {Q:Int→Prop} (hF:cmp_Compare_string.F x1 y1 Q):Con Tryz.prog 73 [.tv kStr x1,.tv kStr y1] [] (fun ta rs'=>∃ (r:Int),Q r∧ta=.tv (kInt .i64) r∧rs'=[]):=by
 refine Con.i Tryz.func73 Tryz.ntmps73 R R (fun C=>?_)
 unfold cmp_Compare_string.F at hF
 refine At.seq (At.region (At.d R R R R (jd (x:=(.tv (kInt .i64) (0:Int))) (ji _ _)) ?_))
 refine At.done (At.jy (At.seq (At.region (At.d R R R R (jb (x:=(.tv kStr x1)) (ja R)) ?_))))
 replace hF:=W.ve hF
 refine At.f R (jm R R jo (jp R en_122 (jf (ja R) jg)) (cmp_isNaN_string.ok hF) (by rintro _ _ ⟨r,_,rfl,_⟩;exact vd)) ?_
 rintro _ _ ⟨_,_,⟨r1,hF,rfl,rfl⟩,rfl,rfl⟩
 refine At.d R R R R (jd (x:=(.tv kBool r1)) (ja R)) ?_
 refine At.done (At.jy (At.seq (At.region (At.d R R R R (jb (x:=(.tv kStr y1)) (ja R)) ?_))))
 replace hF:=W.ve hF
 refine At.f R (jm R R jo (jp R en_122 (jf (ja R) jg)) (cmp_isNaN_string.ok hF) (by rintro _ _ ⟨r,_,rfl,_⟩;exact vd)) ?_
 rintro _ _ ⟨_,_,⟨r2,hF,rfl,rfl⟩,rfl,rfl⟩
 refine At.d R R R R (jd (x:=(.tv kBool r2)) (ja R)) ?_
 refine At.done (At.jy (At.seq (At.seq (At.region (At.d R R R R (jb (x:=(.tv kBool r1)) (ja R)) ?_)))))
 refine At.done (At.jy ?_)
 refine At.cond (ja R) (fun hb1=>?_) (fun hb1=>?_)
 ·replace hF:=W.ite_t hb1 hF
  refine At.seq (At.seq (At.region (At.d R R R R (jb (x:=(.tv kBool r2)) (ja R)) ?_)))
  refine At.done (At.jy ?_)
  refine At.cond (ja R) (fun hb2=>?_) (fun hb2=>?_)
  ·replace hF:=W.ite_t hb2 hF
   refine At.seq (At.region (At.d R R R R (jd (x:=(.tv (kInt .i64) (0:Int))) (ji _ _)) ?_))
   refine At.done (At.jy (At.ret (At.jz (At.jz ?_))))
   exact At.j rfl (rv_tmp rfl) [] rfl ⟨(0:Int),hF,rfl,rfl⟩
  ·replace hF:=W.ite_f hb2 hF
   refine At.skip (At.jy (At.seq (At.region (At.d R R R R (jd (x:=(.tv (kInt .i64) (-1:Int))) (ji _ _)) ?_))))
   refine At.done (At.jy (At.ret (At.jz ?_)))
   exact At.j rfl (rv_tmp rfl) [] rfl ⟨(-1:Int),hF,rfl,rfl⟩
 ·replace hF:=W.ite_f hb1 hF
  refine At.skip (At.jy (At.seq (At.seq (At.region (At.d R R R R (jb (x:=(.tv kBool r2)) (ja R)) ?_)))))
  refine At.done (At.jy ?_)
  refine At.cond (ja R) (fun hb3=>?_) (fun hb3=>?_)
  ·replace hF:=W.ite_t hb3 hF
   refine At.seq (At.region (At.d R R R R (jd (x:=(.tv (kInt .i64) (1:Int))) (ji _ _)) ?_))
   refine At.done (At.jy (At.ret (At.jz ?_)))
   exact At.j rfl (rv_tmp rfl) [] rfl ⟨(1:Int),hF,rfl,rfl⟩
  ·replace hF:=W.ite_f hb3 hF
   refine At.skip (At.jy (At.seq (At.seq (At.region (At.d R R R R (jb (x:=(.tv kStr x1)) (ja R)) ?_)))))
   refine At.d R R R R (jb (x:=(.tv kStr y1)) (ja R)) ?_
   refine At.d R R R R (jj (ja R) (ja R) bin_slss) ?_
   refine At.done (At.jy ?_)
   refine At.cond (ja R) (fun hb4=>?_) (fun hb4=>?_)
   ·replace hF:=W.ite_t hb4 hF
    refine At.seq (At.region (At.d R R R R (jd (x:=(.tv (kInt .i64) (-1:Int))) (ji _ _)) ?_))
    refine At.done (At.jy (At.ret (At.jz ?_)))
    exact At.j rfl (rv_tmp rfl) [] rfl ⟨(-1:Int),hF,rfl,rfl⟩
   ·replace hF:=W.ite_f hb4 hF
    refine At.skip (At.jy (At.seq (At.seq (At.region (At.d R R R R (jb (x:=(.tv kStr x1)) (ja R)) ?_)))))
    refine At.d R R R R (jb (x:=(.tv kStr y1)) (ja R)) ?_
    refine At.d R R R R (jj (ja R) (ja R) bin_sgtr) ?_
    refine At.done (At.jy ?_)
    refine At.cond (ja R) (fun hb5=>?_) (fun hb5=>?_)
    ·replace hF:=W.ite_t hb5 hF
     refine At.seq (At.region (At.d R R R R (jd (x:=(.tv (kInt .i64) (1:Int))) (ji _ _)) ?_))
     refine At.done (At.jy (At.ret (At.jz ?_)))
     exact At.j rfl (rv_tmp rfl) [] rfl ⟨(1:Int),hF,rfl,rfl⟩
    ·replace hF:=W.ite_f hb5 hF
     refine At.skip (At.jy (At.seq (At.region (At.d R R R R (jd (x:=(.tv (kInt .i64) (0:Int))) (ji _ _)) ?_))))
     refine At.done (At.jy (At.ret ?_))
     exact At.j rfl (rv_tmp rfl) [] rfl ⟨(0:Int),hF,rfl,rfl⟩
def border_compare.c1:W Int:=W.ret (0:Int)
def border_compare.l1 (l1:(List BA)) (K1:W Int) (A1:Int→W Int) (i6:Int):W Int:=W.ite (decide ((w64 (i6+(1:Int)))<(l1.length:Int))) (W.req (0≤i6∧i6<(l1.length:Int)) (W.req (0≤(w64 (i6+(1:Int)))∧(w64 (i6+(1:Int)))<(l1.length:Int)) (W.bind (cmp_Compare_string.F (rd (⟨#[]⟩:BA) l1 i6) (rd (⟨#[]⟩:BA) l1 (w64 (i6+(1:Int))))) (fun r5=>W.ite (r5 != (0:Int)) (W.ret r5) (A1 (w64 (i6+(2:Int)))))))) (K1)
def border_compare.F (l1:(List BA)):W Int:=W.ex fun n=>W.iter1 (border_compare.l1 l1 (border_compare.c1)) n (0:Int)
theorem border_compare.ok {l1:(List BA)} {Q:Int→Prop} (hF:border_compare.F l1 Q):Con Tryz.prog 68 [.tv (kSlice kStr) l1] [] (fun ta rs'=>∃ (r:Int),Q r∧ta=.tv (kInt .i64) r∧rs'=[]):=by
 refine Con.i Tryz.func68 Tryz.ntmps68 R R (fun C=>?_)
 unfold border_compare.F at hF
 refine At.seq (At.region (At.d R R R R (jd (x:=(.tv (kInt .i64) (0:Int))) (ji _ _)) ?_))
 refine At.done (At.jy ?_)
 refine At.cut (fun rs L=>∃ _:Unit,border_compare.c1 Q∧rs=[]∧L=mkL []) ?_ ?_
 ·refine At.seq (At.region (At.d R R R R (jd (x:=(.tv (kInt .i64) (0:Int))) (ji _ _)) ?_))
  refine At.done (At.jy (At.block ?_))
  obtain ⟨n1,hF⟩:=hF
  refine At.w [] R [(0,(.tv (kSlice kStr) l1)),(3,(.tv (kInt .i64) (0:Int)))] ⟨R,R,trivial⟩ ?_
  refine At.loop (fun m rs L=>∃ (i6:Int),W.iter1 (border_compare.l1 l1 (border_compare.c1)) m i6 Q∧rs=[]∧L=mkL [(0,(.tv (kSlice kStr) l1)),(3,(.tv (kInt .i64) i6))]) ?_ ?_ (m:=n1) ⟨(0:Int),hF,R,R⟩
  ·rintro rs L ⟨_,hF,_,_⟩;exact hF
  ·rintro m1 _ _ ⟨i6,hF,rfl,rfl⟩
   replace hF:=W.iter1_s hF
   unfold border_compare.l1 at hF
   refine At.seq (At.seq (At.region (At.d R R R R (jb (x:=(.tv (kInt .i64) i6)) (ja R)) ?_)))
   refine At.d R R R R (jj (ja R) (ji _ _) jv) ?_
   refine At.d R R R R (jb (x:=(.tv (kSlice kStr) l1)) (ja R)) ?_
   refine At.d R R R R (jr (ja R) Tryz.underlying41) ?_
   refine At.d R R R R (jj (ja R) (ja R) jw) ?_
   refine At.done (At.jy ?_)
   refine At.cond (ja R) (fun hb9=>?_) (fun hb9=>?_)
   ·replace hF:=W.ite_t hb9 hF
    refine At.skip (At.jy (At.seq (At.block (At.seq ?_))))
    refine At.draw mixed [] R [] (fun φ w hgd=>?_)
    obtain ⟨hq9,hF⟩:=hF
    obtain ⟨hq10,hF⟩:=hF
    replace hF:=W.ve hF
    refine AtH.take [] hgd 0 R R R R (D':=#[Y,N,N,N,N,N,N,N,N,N,N]) (by kernel_rfl) (fun _ _ _ _ h=>h) R (jb (x:=(.tv (kSlice kStr) l1)) (ja R)) ?_
    refine AtH.take [] hgd 1 R R R R (D':=#[Y,Y,N,N,N,N,N,N,N,N,N]) (by kernel_rfl) (fun _ _ _ _ h=>h) R (jb (x:=(.tv (kInt .i64) i6)) (ja R)) ?_
    refine AtH.take [] hgd 2 R R R R (D':=#[Y,Y,Y,N,N,N,N,N,N,N,N]) (by kernel_rfl) (fun _ _ _ _ h=>h) R (jx (⟨#[]⟩:BA) (ja R) (ja R) Tryz.underlying41 ty_9 hq9) ?_
    refine AtH.take [] hgd 3 R R R R (D':=#[Y,Y,Y,Y,N,N,N,N,N,N,N]) (by kernel_rfl) (fun _ _ _ _ h=>h) R (vi (K:=kStr) (ja R) ty_9) ?_
    refine AtH.take [] hgd 4 R R R R (D':=#[Y,Y,Y,Y,Y,N,N,N,N,N,N]) (by kernel_rfl) (fun _ _ _ _ h=>h) R (jb (x:=(.tv (kSlice kStr) l1)) (ja R)) ?_
    refine AtH.take [] hgd 5 R R R R (D':=#[Y,Y,Y,Y,Y,Y,N,N,N,N,N]) (by kernel_rfl) (fun _ _ _ _ h=>h) R (jb (x:=(.tv (kInt .i64) i6)) (ja R)) ?_
    refine AtH.take [] hgd 6 R R R R (D':=#[Y,Y,Y,Y,Y,Y,Y,N,N,N,N]) (by kernel_rfl) (fun _ _ _ _ h=>h) R (jj (ja R) (ji _ _) jv) ?_
    refine AtH.take [] hgd 7 R R R R (D':=#[Y,Y,Y,Y,Y,Y,Y,Y,N,N,N]) (by kernel_rfl) (fun _ _ _ _ h=>h) R (jx (⟨#[]⟩:BA) (ja R) (ja R) Tryz.underlying41 ty_9 hq10) ?_
    refine AtH.take [] hgd 8 R R R R (D':=#[Y,Y,Y,Y,Y,Y,Y,Y,Y,N,N]) (by kernel_rfl) (fun _ _ _ _ h=>h) R (vi (K:=kStr) (ja R) ty_9) ?_
    refine AtH.all1 9 (by kernel_rfl) ?_
    refine AtH.f [] R R R R R R (jm R R jo (jp R en_73 (jf (ja R) (jf (ja R) jg))) (cmp_Compare_string.ok hF) (by rintro _ _ ⟨r,_,rfl,_⟩;exact flat_int)) (D':=#[Y,Y,Y,Y,Y,Y,Y,Y,Y,Y,N]) (by kernel_rfl) (by kernel_rfl) ?_
    rintro _ _ ⟨_,_,⟨r5,hF,rfl,rfl⟩,rfl,rfl⟩
    refine ⟨_,.inr ⟨R,flat_int⟩,?_⟩
    refine AtH.take [] hgd 10 R R R R (D':=#[Y,Y,Y,Y,Y,Y,Y,Y,Y,Y,Y]) (by kernel_rfl) (fun _ _ _ _ h=>h) R (jd (x:=(.tv (kInt .i64) r5)) (ja R)) ?_
    refine AtH.done (by kernel_rfl) ?_
    refine At.jy (At.seq (At.region (At.d R R R R (jb (x:=(.tv (kInt .i64) r5)) (ja R)) ?_)))
    refine At.d R R R R (jj (ja R) (ji _ _) bin_neq) ?_
    refine At.done (At.jy ?_)
    refine At.cond (ja R) (fun hb10=>?_) (fun hb10=>?_)
    ·replace hF:=W.ite_t hb10 hF
     refine At.seq (At.region (At.d R R R R (jb (x:=(.tv (kInt .i64) r5)) (ja R)) ?_))
     refine At.d R R R R (jd (x:=(.tv (kInt .i64) r5)) (ja R)) ?_
     refine At.done (At.jy (At.ret ?_))
     refine At.q ?_
     refine At.jz (At.jz ?_)
     refine At.q ?_
     refine At.jz ?_
     exact At.j rfl (rv_tmp rfl) [] rfl ⟨r5,hF,rfl,rfl⟩
    ·replace hF:=W.ite_f hb10 hF
     refine At.skip ?_
     refine At.n ?_
     refine At.jy (At.region (At.d R R R R (jb (x:=(.tv (kInt .i64) i6)) (ja R)) ?_))
     refine At.d R R R R (jj (ja R) (ji _ _) jv) ?_
     refine At.d R R R R (jd (x:=(.tv (kInt .i64) (w64 (i6+(2:Int))))) (ja R)) ?_
     refine At.done (At.jy ?_)
     refine At.w [] R [(0,(.tv (kSlice kStr) l1)),(3,(.tv (kInt .i64) (w64 (i6+(2:Int)))))] ⟨R,R,trivial⟩ (At.r ⟨(w64 (i6+(2:Int))),hF,R,R⟩)
   ·replace hF:=W.ite_f hb9 hF
    refine At.exit ?_
    refine At.x (At.x ?_)
    refine At.h ?_
    refine At.jy ?_
    refine At.w [] R [] trivial (At.r ⟨(),hF,R,R⟩)
 ·rintro _ _ ⟨_,hF,rfl,rfl⟩
  unfold border_compare.c1 at hF
  refine At.seq (At.region (At.d R R R R (jd (x:=(.tv (kInt .i64) (0:Int))) (ji _ _)) ?_))
  refine At.done (At.jy (At.ret ?_))
  exact At.j rfl (rv_tmp rfl) [] rfl ⟨(0:Int),hF,rfl,rfl⟩
def border_parcel_lines_1.F (a1:border_line) (b1:border_line):W Int:=W.bind (border_compare.F ([a1.nodes.1,b1.nodes.1,a1.nodes.2,b1.nodes.2]:List BA)) (fun r1=>W.ret r1)
theorem border_parcel_lines_1.ok {a1:border_line} {b1:border_line} {Q:Int→Prop} (hF:border_parcel_lines_1.F a1 b1 Q):Con Tryz.prog 67 [.tv kborder_line a1,.tv kborder_line b1] [] (fun ta rs'=>∃ (r:Int),Q r∧ta=.tv (kInt .i64) r∧rs'=[]):=by
 refine Con.i Tryz.func67 Tryz.ntmps67 R R (fun C=>?_)
 unfold border_parcel_lines_1.F at hF
 refine At.seq (At.region (At.f R (eff_box R R R (ja R)) ?_))
 rintro _ _ ⟨g1,rfl,rfl⟩
 refine At.f R (eff_box R R R (ja R)) ?_
 rintro _ _ ⟨g2,rfl,rfl⟩
 refine At.d R R R R (jd (x:=(.tv (kInt .i64) (0:Int))) (ji _ _)) ?_
 refine At.done (At.jy (At.seq (At.region (At.d R R R R (je (ja R) fa_82_0) ?_))))
 refine At.d R R R R (does_aidx_box (ja R) (ji _ _) ia_50_0) ?_
 refine At.d R R R R (jc (ja R) 1 R sub_border_line_0_0 ty_9) ?_
 refine At.d R R R R (je (ja R) fa_82_0) ?_
 refine At.d R R R R (does_aidx_box (ja R) (ji _ _) ia_50_0) ?_
 refine At.d R R R R (jc (ja R) 0 R sub_border_line_0_0 ty_9) ?_
 refine At.d R R R R (je (ja R) fa_82_0) ?_
 refine At.d R R R R (does_aidx_box (ja R) (ji _ _) ia_50_1) ?_
 refine At.d R R R R (jc (ja R) 1 R sub_border_line_0_1 ty_9) ?_
 refine At.d R R R R (je (ja R) fa_82_0) ?_
 refine At.d R R R R (does_aidx_box (ja R) (ji _ _) ia_50_1) ?_
 refine At.d R R R R (jc (ja R) 0 R sub_border_line_0_1 ty_9) ?_
 refine At.f R (eff_lit R R R (os:=[.tmp 7,.tmp 10,.tmp 13,.tmp 16]) R sl_41 (xs:=([a1.nodes.1,b1.nodes.1,a1.nodes.2,b1.nodes.2]:List BA)) (jf (ja R) (jf (ja R) (jf (ja R) (jf (ja R) jg)))) R R) ?_
 rintro _ _ ⟨v1,rfl,rfl⟩
 replace hF:=W.ve hF
 refine At.f R (jm R R (lends_row 0 17 R R jo) (jp R en_68 (jf (ja R) jg)) (border_compare.ok hF) (by rintro _ _ ⟨r,_,rfl,_⟩;exact flat_int)) ?_
 rintro _ _ ⟨_,_,⟨r1,hF,rfl,rfl⟩,rfl,rfl⟩
 refine At.d R R R R (jd (x:=(.tv (kInt .i64) r1)) (ja R)) ?_
 refine At.done (At.jy (At.ret ?_))
 exact At.j rfl (rv_tmp rfl) [] rfl ⟨r1,hF,rfl,rfl⟩
def slices_SortFunc_border_line_border_line__o_border_parcel_lines_1.F (x:(List border_line)):W (List border_line):=W.sort (fun a b=>border_parcel_lines_1.F a b) x W.ret
theorem slices_SortFunc_border_line_border_line__o_border_parcel_lines_1.ok {x:(List border_line)} {u:Value} {Q:(List border_line)→Prop} (hF:slices_SortFunc_border_line_border_line__o_border_parcel_lines_1.F x Q):Con Tryz.prog 66 [.eq u,.cls 67 0 (tupl [])] [.row u 82 kborder_line x] (fun ta rs'=>∃ (r:(List border_line)),Q r∧ta=.eq (.tuple #[])∧rs'=[.row u 82 kborder_line r]):=by
 obtain ⟨hl,cf,hO,hc,hk⟩:=hF
 exact (con_sortFunc Tryz.sort66 rfl rfl ty_82 en_67 (fun a b ha hb=>(border_parcel_lines_1.ok (hc a b ha hb)).mono (by rintro ta rs' ⟨r,rfl,rfl,rfl⟩;rfl)) hO hl).mono (by rintro ta rs' ⟨ys,hp,hs,rfl,rfl⟩;exact ⟨ys,hk ys hp hs,rfl,rfl⟩)
def vn.c2 (x19:(List border_line)):W (List border_line):=W.bind (slices_SortFunc_border_line_border_line__o_border_parcel_lines_1.F x19) (fun r7=>W.ret r7)
def vn.l1 (K2:(List border_line)→W (List border_line)) (A1:(List border_line)→(List ((BA×BA)×(List BA)))→W (List border_line)) (x24:(List border_line)) (x25:(List ((BA×BA)×(List BA)))):W (List border_line):=W.next x25 (((⟨#[]⟩:BA),(⟨#[]⟩:BA)),([]:List BA)) (fun b11 e11 l5=>W.ite b11 (W.req (b11=true) (W.req ((x24.length+([(⟨e11.1,e11.2⟩:border_line)]:List border_line).length)*56≤140737488355328∧x24.length+([(⟨e11.1,e11.2⟩:border_line)]:List border_line).length≤140737488355328) (A1 (x24++([(⟨e11.1,e11.2⟩:border_line)]:List border_line)) l5))) (K2 x24))
def vn.c1 (x12:(List ((BA×BA)×(List BA)))):W (List border_line):=W.req (0≤(x12.length:Int)∧(x12.length:Int)*56≤140737488355328∧(x12.length:Int)≤140737488355328) (W.ex fun n=>W.iter2 (vn.l1 (vn.c2)) n ([]:List border_line) x12)
def vn.c3 (t18:Int) (A2:(List ((BA×BA)×(List BA)))→Int→W (List border_line)) (x40:(List ((BA×BA)×(List BA)))):W (List border_line):=A2 x40 (w64 (t18+(1:Int)))
def vn.l3 (p1:border_parcel) (t18:Int) (K3:(List ((BA×BA)×(List BA)))→W (List border_line)) (A3:(List ((BA×BA)×(List BA)))→Int→W (List border_line)) (x43:(List ((BA×BA)×(List BA)))) (t24:Int):W (List border_line):=W.ite (decide (t24<(((rd zObject p1.m.Objects t18).Refs).length:Int))) (W.req (0≤t24∧t24<(((rd zObject p1.m.Objects t18).Refs).length:Int)) (W.ite (((w64 (t24+(1:Int)))==(((rd zObject p1.m.Objects t18).Refs).length:Int))&&(((rd zObject p1.m.Objects t18).Kind)==(2:Int))) (K3 x43) (W.req ((((rd zObject p1.m.Objects t18).Refs).length:Int)≠0) (W.req (0≤(Int.tmod (w64 (t24+(1:Int))) (((rd zObject p1.m.Objects t18).Refs).length:Int))∧(Int.tmod (w64 (t24+(1:Int))) (((rd zObject p1.m.Objects t18).Refs).length:Int))<(((rd zObject p1.m.Objects t18).Refs).length:Int)) (W.bind (vv.F (mget ((sMin (rd (⟨#[]⟩:BA) ((rd zObject p1.m.Objects t18).Refs) t24) (rd (⟨#[]⟩:BA) ((rd zObject p1.m.Objects t18).Refs) (Int.tmod (w64 (t24+(1:Int))) (((rd zObject p1.m.Objects t18).Refs).length:Int)))),(sMax (rd (⟨#[]⟩:BA) ((rd zObject p1.m.Objects t18).Refs) t24) (rd (⟨#[]⟩:BA) ((rd zObject p1.m.Objects t18).Refs) (Int.tmod (w64 (t24+(1:Int))) (((rd zObject p1.m.Objects t18).Refs).length:Int))))) ([]:List BA) x43) ((rd zObject p1.m.Objects t18).Id)) (fun r20=>W.ite (!r20) (W.req (((mget ((sMin (rd (⟨#[]⟩:BA) ((rd zObject p1.m.Objects t18).Refs) t24) (rd (⟨#[]⟩:BA) ((rd zObject p1.m.Objects t18).Refs) (Int.tmod (w64 (t24+(1:Int))) (((rd zObject p1.m.Objects t18).Refs).length:Int)))),(sMax (rd (⟨#[]⟩:BA) ((rd zObject p1.m.Objects t18).Refs) t24) (rd (⟨#[]⟩:BA) ((rd zObject p1.m.Objects t18).Refs) (Int.tmod (w64 (t24+(1:Int))) (((rd zObject p1.m.Objects t18).Refs).length:Int))))) ([]:List BA) x43).length+([(rd zObject p1.m.Objects t18).Id]:List BA).length)*16≤140737488355328∧(mget ((sMin (rd (⟨#[]⟩:BA) ((rd zObject p1.m.Objects t18).Refs) t24) (rd (⟨#[]⟩:BA) ((rd zObject p1.m.Objects t18).Refs) (Int.tmod (w64 (t24+(1:Int))) (((rd zObject p1.m.Objects t18).Refs).length:Int)))),(sMax (rd (⟨#[]⟩:BA) ((rd zObject p1.m.Objects t18).Refs) t24) (rd (⟨#[]⟩:BA) ((rd zObject p1.m.Objects t18).Refs) (Int.tmod (w64 (t24+(1:Int))) (((rd zObject p1.m.Objects t18).Refs).length:Int))))) ([]:List BA) x43).length+([(rd zObject p1.m.Objects t18).Id]:List BA).length≤140737488355328) (A3 (mset ((sMin (rd (⟨#[]⟩:BA) ((rd zObject p1.m.Objects t18).Refs) t24) (rd (⟨#[]⟩:BA) ((rd zObject p1.m.Objects t18).Refs) (Int.tmod (w64 (t24+(1:Int))) (((rd zObject p1.m.Objects t18).Refs).length:Int)))),(sMax (rd (⟨#[]⟩:BA) ((rd zObject p1.m.Objects t18).Refs) t24) (rd (⟨#[]⟩:BA) ((rd zObject p1.m.Objects t18).Refs) (Int.tmod (w64 (t24+(1:Int))) (((rd zObject p1.m.Objects t18).Refs).length:Int))))) ((mget ((sMin (rd (⟨#[]⟩:BA) ((rd zObject p1.m.Objects t18).Refs) t24) (rd (⟨#[]⟩:BA) ((rd zObject p1.m.Objects t18).Refs) (Int.tmod (w64 (t24+(1:Int))) (((rd zObject p1.m.Objects t18).Refs).length:Int)))),(sMax (rd (⟨#[]⟩:BA) ((rd zObject p1.m.Objects t18).Refs) t24) (rd (⟨#[]⟩:BA) ((rd zObject p1.m.Objects t18).Refs) (Int.tmod (w64 (t24+(1:Int))) (((rd zObject p1.m.Objects t18).Refs).length:Int))))) ([]:List BA) x43)++([(rd zObject p1.m.Objects t18).Id]:List BA)) x43) (w64 (t24+(1:Int))))) (A3 x43 (w64 (t24+(1:Int)))))))))) (K3 x43)
def vn.l2 (p1:border_parcel) (K1:(List ((BA×BA)×(List BA)))→W (List border_line)) (A2:(List ((BA×BA)×(List BA)))→Int→W (List border_line)) (x36:(List ((BA×BA)×(List BA)))) (t18:Int):W (List border_line):=W.ite (decide (t18<(p1.m.Objects.length:Int))) (W.req (0≤t18∧t18<(p1.m.Objects.length:Int)) (W.bind (W.ite (!((((rd zObject p1.m.Objects t18).Kind) != (2:Int))&&(((rd zObject p1.m.Objects t18).Kind) != (3:Int)))) (border_parcel_nodes.F p1 (rd zObject p1.m.Objects t18)) (W.ret false)) (fun r17=>W.ite (((((rd zObject p1.m.Objects t18).Kind) != (2:Int))&&(((rd zObject p1.m.Objects t18).Kind) != (3:Int)))||(!r17)) ((vn.c3 t18 A2) x36) (W.ex fun n=>W.iter2 (vn.l3 p1 t18 (vn.c3 t18 A2)) n x36 (0:Int))))) (K1 x36)
def vn.F (p1:border_parcel):W (List border_line):=W.ex fun n=>W.iter2 (vn.l2 p1 (vn.c1)) n ([]:(List ((BA×BA)×(List BA)))) (0:Int)
theorem vn.ok {p1:border_parcel} {Q:(List border_line)→Prop} (hF:vn.F p1 Q):Con Tryz.prog 31 [.tv kborder_parcel p1] [] (fun ta rs'=>∃ (r:(List border_line)) (u0:Value),Q r∧ta=.eq u0∧rs'=[.row u0 82 kborder_line r]):=by
 refine Con.i Tryz.func31 Tryz.ntmps31 R R (fun C=>?_)
 unfold vn.F at hF
 refine At.seq (At.region (At.f R (eff_box R R R (ja R)) ?_))
 rintro _ _ ⟨g1,rfl,rfl⟩
 refine At.d R R R R (jd (x:=(.eq (.slice none 0 0))) (opd_eq _)) ?_
 refine At.done (At.jy (At.seq (At.region (At.f R (eff_makeMapR R R R (kPair kStr kStr) 9 kStr) ?_))))
 rintro _ _ ⟨g2,rfl,rfl⟩
 refine At.d R R R R (jd (x:=(.eq (.map (some g2)))) (ja R)) ?_
 refine At.done (At.jy ?_)
 refine At.cut (fun rs L=>∃ (x12:(List ((BA×BA)×(List BA)))) (w20:List Value),vn.c1 x12 Q∧rs=[.mrow g2 (kPair kStr kStr) 9 kStr w20 x12]∧L=mkL [(3,(.eq (.map (some g2))))]) ?_ ?_
 ·refine At.seq (At.region (At.d R R R R (je (ja R) fa_76_0) ?_))
  refine At.d R R R R (je (ja R) fa_24_0) ?_
  refine At.d R R R R (jc (ja R) 1 R sub_border_parcel_0_0 ty_22) ?_
  refine At.d R R R R (jr (ja R) Tryz.underlying22) ?_
  refine At.d R R R R (jb (x:=(.tv (kInt .i64) (0:Int))) (ji _ _)) ?_
  refine At.done (At.jy (At.block ?_))
  obtain ⟨n3,hF⟩:=hF
  refine At.w [1,0] R [(1,(.eq (.pointer (some ⟨g1,0,none⟩)))),(3,(.eq (.map (some g2)))),(17,(.tv (kSlice kObject) p1.m.Objects)),(18,(.tv (kInt .i64) (p1.m.Objects.length:Int))),(19,(.tv (kInt .i64) (0:Int)))] ⟨R,R,R,R,R,trivial⟩ ?_
  refine At.loop (fun m rs L=>∃ (x36:(List ((BA×BA)×(List BA)))) (w39:List Value) (t18:Int),W.iter2 (vn.l2 p1 (vn.c1)) m x36 t18 Q∧rs=[.box g1 76 kborder_parcel p1,.mrow g2 (kPair kStr kStr) 9 kStr w39 x36]∧L=mkL [(1,(.eq (.pointer (some ⟨g1,0,none⟩)))),(3,(.eq (.map (some g2)))),(17,(.tv (kSlice kObject) p1.m.Objects)),(18,(.tv (kInt .i64) (p1.m.Objects.length:Int))),(19,(.tv (kInt .i64) t18))]) ?_ ?_ (m:=n3) ⟨([]:(List ((BA×BA)×(List BA)))),[],(0:Int),hF,R,R⟩
  ·rintro rs L ⟨_,_,_,hF,_,_⟩;exact hF
  ·rintro m2 _ _ ⟨x36,w39,t18,hF,rfl,rfl⟩
   replace hF:=W.iter2_s hF
   unfold vn.l2 at hF
   refine At.seq (At.region (At.d R R R R (jj (ja R) (ja R) jw) ?_))
   refine At.done (At.jy (At.seq ?_))
   refine At.cond (ja R) (fun hb38=>?_) (fun hb38=>?_)
   ·replace hF:=W.ite_t hb38 hF
    refine At.skip (At.jy ?_)
    refine At.cut (fun rs L=>∃ (x40:(List ((BA×BA)×(List BA)))) (w47:List Value),vn.c3 t18 (W.iter2 (vn.l2 p1 (vn.c1)) m2) x40 Q∧rs=[.box g1 76 kborder_parcel p1,.mrow g2 (kPair kStr kStr) 9 kStr w47 x40]∧L=mkL [(1,(.eq (.pointer (some ⟨g1,0,none⟩)))),(3,(.eq (.map (some g2)))),(17,(.tv (kSlice kObject) p1.m.Objects)),(18,(.tv (kInt .i64) (p1.m.Objects.length:Int))),(19,(.tv (kInt .i64) t18))]) ?_ ?_
    ·refine At.block (At.seq (At.region ?_))
     obtain ⟨hq57,hF⟩:=hF
     refine At.d R R R R (jx zObject (ja R) (ja R) Tryz.underlying22 ty_59 hq57) ?_
     refine At.d R R R R (vi (K:=kObject) (ja R) ty_59) ?_
     refine At.f R (eff_alloc R R R tz_59) ?_
     rintro _ _ ⟨g25,rfl,rfl⟩
     refine At.f R (ju R R (ja R) 0 R (Sub.self kObject) ty_59 (ja R)) ?_
     rintro _ _ ⟨rfl,rfl⟩
     refine At.done (At.jy (At.seq (At.seq (At.region (At.d R R R R (je (ja R) fa_59_1) ?_)))))
     refine At.d R R R R (jc (ja R) 0 R sub_Object_1 ty_3) ?_
     refine At.d R R R R (jj (ja R) (ji _ _) bin_neq) ?_
     refine At.d R R R R (jb (x:=(.tv kBool (((rd zObject p1.m.Objects t18).Kind) != (2:Int)))) (ja R)) ?_
     refine At.vc R R R R (js R) R (fun hg66=>(je (ja R) fa_59_1)) ?_
     refine At.vc R R R R (js R) R (fun hg67=>(jc (jh R hg67) 0 R sub_Object_1 ty_3)) ?_
     refine At.vc R R R R (js R) R (fun hg68=>(jj (jh R hg68) (ji _ _) bin_neq)) ?_
     refine At.d R R R R (jl (ja R) (ja R) (jk _) pick_and) ?_
     refine At.d R R R R (jb (x:=(.tv kBool ((((rd zObject p1.m.Objects t18).Kind) != (2:Int))&&(((rd zObject p1.m.Objects t18).Kind) != (3:Int))))) (ja R)) ?_
     refine At.vc R R R R (jt R) R (fun hg69=>(jc (ja R) 1 R (Sub.self kborder_parcel) ty_76)) ?_
     refine At.vc R R R R (jt R) R (fun hg70=>(jc (ja R) 0 R (Sub.self kObject) ty_59)) ?_
     replace hF:=W.ve hF
     refine At.effG R R R R (jt R) hF (fun r=>.tv kBool r) (fun hg71 hF=>eff_of (jm R R jo (jp R en_65 (jf (jh R hg71) (jf (jh R hg71) jg))) (border_parcel_nodes.ok hF) (by rintro _ _ ⟨r,_,rfl,_⟩;exact vd)) (by rintro _ _ ⟨_,_,⟨r,hF,rfl,rfl⟩,rfl,rfl⟩;exact ⟨r,hF,R,R⟩)) (fun r17 hF=>?_)
     refine At.vc R R R R (jt R) R (fun hg72=>(does_not (jh R hg72))) ?_
     refine At.d R R R R (jl (ja R) (jk _) (ja R) pick_or) ?_
     refine At.done (At.jy ?_)
     refine At.cond (ja R) (fun hb46=>?_) (fun hb46=>?_)
     ·replace hF:=W.ite_t hb46 hF
      refine At.exit ?_
      refine At.x ?_
      refine At.h ?_
      refine At.jy ?_
      refine At.w [1,2] R [(1,(.eq (.pointer (some ⟨g1,0,none⟩)))),(3,(.eq (.map (some g2)))),(17,(.tv (kSlice kObject) p1.m.Objects)),(18,(.tv (kInt .i64) (p1.m.Objects.length:Int))),(19,(.tv (kInt .i64) t18))] ⟨R,R,R,R,R,trivial⟩ (At.r ⟨x36,w39,hF,R,R⟩)
     ·replace hF:=W.ite_f hb46 hF
      refine At.skip (At.jy (At.seq (At.region (At.d R R R R (je (ja R) fa_59_3) ?_))))
      refine At.d R R R R (jc (ja R) 0 R sub_Object_3 ty_41) ?_
      refine At.d R R R R (jr (ja R) Tryz.underlying41) ?_
      refine At.d R R R R (jb (x:=(.tv (kInt .i64) (0:Int))) (ji _ _)) ?_
      refine At.done (At.jy (At.block ?_))
      obtain ⟨n2,hF⟩:=hF
      refine At.w [1,2,0] R [(1,(.eq (.pointer (some ⟨g1,0,none⟩)))),(3,(.eq (.map (some g2)))),(5,(.eq (.pointer (some ⟨g25,0,none⟩)))),(17,(.tv (kSlice kObject) p1.m.Objects)),(18,(.tv (kInt .i64) (p1.m.Objects.length:Int))),(19,(.tv (kInt .i64) t18)),(38,(.tv (kSlice kStr) ((rd zObject p1.m.Objects t18).Refs))),(39,(.tv (kInt .i64) (((rd zObject p1.m.Objects t18).Refs).length:Int))),(40,(.tv (kInt .i64) (0:Int)))] ⟨R,R,R,R,R,R,R,R,R,trivial⟩ ?_
      refine At.loop (fun m rs L=>∃ (x43:(List ((BA×BA)×(List BA)))) (w54:List Value) (t24:Int),W.iter2 (vn.l3 p1 t18 (vn.c3 t18 (W.iter2 (vn.l2 p1 (vn.c1)) m2))) m x43 t24 Q∧rs=[.box g1 76 kborder_parcel p1,.mrow g2 (kPair kStr kStr) 9 kStr w54 x43,.box g25 59 kObject (rd zObject p1.m.Objects t18)]∧L=mkL [(1,(.eq (.pointer (some ⟨g1,0,none⟩)))),(3,(.eq (.map (some g2)))),(5,(.eq (.pointer (some ⟨g25,0,none⟩)))),(17,(.tv (kSlice kObject) p1.m.Objects)),(18,(.tv (kInt .i64) (p1.m.Objects.length:Int))),(19,(.tv (kInt .i64) t18)),(38,(.tv (kSlice kStr) ((rd zObject p1.m.Objects t18).Refs))),(39,(.tv (kInt .i64) (((rd zObject p1.m.Objects t18).Refs).length:Int))),(40,(.tv (kInt .i64) t24))]) ?_ ?_ (m:=n2) ⟨x36,w39,(0:Int),hF,R,R⟩
      ·rintro rs L ⟨_,_,_,hF,_,_⟩;exact hF
      ·rintro m3 _ _ ⟨x43,w54,t24,hF,rfl,rfl⟩
       replace hF:=W.iter2_s hF
       unfold vn.l3 at hF
       refine At.seq (At.region (At.d R R R R (jj (ja R) (ja R) jw) ?_))
       refine At.done (At.jy (At.seq ?_))
       refine At.cond (ja R) (fun hb53=>?_) (fun hb53=>?_)
       ·replace hF:=W.ite_t hb53 hF
        refine At.skip (At.jy (At.seq (At.block (At.seq (At.region (At.d R R R R (jb (x:=(.tv (kInt .i64) t24)) (ja R)) ?_))))))
        obtain ⟨hq66,hF⟩:=hF
        refine At.d R R R R (jx (⟨#[]⟩:BA) (ja R) (ja R) Tryz.underlying41 ty_9 hq66) ?_
        refine At.d R R R R (vi (K:=kStr) (ja R) ty_9) ?_
        refine At.d R R R R (jd (x:=(.tv (kInt .i64) t24)) (ja R)) ?_
        refine At.d R R R R (jd (x:=(.tv kStr (rd (⟨#[]⟩:BA) ((rd zObject p1.m.Objects t18).Refs) t24))) (ja R)) ?_
        refine At.done (At.jy (At.seq (At.region (At.d R R R R (jb (x:=(.tv (kInt .i64) t24)) (ja R)) ?_))))
        refine At.d R R R R (jj (ja R) (ji _ _) jv) ?_
        refine At.d R R R R (jd (x:=(.tv (kInt .i64) (w64 (t24+(1:Int))))) (ja R)) ?_
        refine At.done (At.jy (At.seq (At.seq (At.region (At.d R R R R (jb (x:=(.tv (kInt .i64) (w64 (t24+(1:Int))))) (ja R)) ?_)))))
        refine At.d R R R R (je (ja R) fa_59_3) ?_
        refine At.d R R R R (jc (ja R) 2 R sub_Object_3 ty_41) ?_
        refine At.d R R R R (jr (ja R) Tryz.underlying41) ?_
        refine At.d R R R R (jj (ja R) (ja R) bin_eql) ?_
        refine At.d R R R R (jb (x:=(.tv kBool ((w64 (t24+(1:Int)))==(((rd zObject p1.m.Objects t18).Refs).length:Int)))) (ja R)) ?_
        refine At.vc R R R R (js R) R (fun hg79=>(je (ja R) fa_59_1)) ?_
        refine At.vc R R R R (js R) R (fun hg80=>(jc (jh R hg80) 2 R sub_Object_1 ty_3)) ?_
        refine At.vc R R R R (js R) R (fun hg81=>(jj (jh R hg81) (ji _ _) bin_eql)) ?_
        refine At.d R R R R (jl (ja R) (ja R) (jk _) pick_and) ?_
        refine At.done (At.jy ?_)
        refine At.cond (ja R) (fun hb54=>?_) (fun hb54=>?_)
        ·replace hF:=W.ite_t hb54 hF
         refine At.exit ?_
         refine At.x ?_
         refine At.block_there R ?_
         refine At.x (At.x ?_)
         refine At.h ?_
         refine At.n ?_
         refine At.jy ?_
         refine At.w [0,1] R [(1,(.eq (.pointer (some ⟨g1,0,none⟩)))),(3,(.eq (.map (some g2)))),(17,(.tv (kSlice kObject) p1.m.Objects)),(18,(.tv (kInt .i64) (p1.m.Objects.length:Int))),(19,(.tv (kInt .i64) t18))] ⟨R,R,R,R,R,trivial⟩ (At.r ⟨x43,w54,hF,R,R⟩)
        ·replace hF:=W.ite_f hb54 hF
         refine At.skip (At.jy (At.seq ?_))
         refine At.draw mixed [0,1,2] R [[],[],[]] (fun φ w hgd=>?_)
         obtain ⟨hq67,hF⟩:=hF
         obtain ⟨hq68,hF⟩:=hF
         refine AtH.take [0,1,2] hgd 0 R R R R (D':=#[Y,N,N,N,N,N,N,N,N,N]) (by kernel_rfl) (fun _ _ _ _ h=>h) R (je (ja R) fa_59_3) ?_
         refine AtH.take [0,1,2] hgd 1 R R R R (D':=#[Y,Y,N,N,N,N,N,N,N,N]) (by kernel_rfl) (fun _ _ _ _ h=>h) R (jc (ja R) 2 R sub_Object_3 ty_41) ?_
         refine AtH.take [0,1,2] hgd 2 R R R R (D':=#[Y,Y,Y,N,N,N,N,N,N,N]) (by kernel_rfl) (fun _ _ _ _ h=>h) R (jb (x:=(.tv (kInt .i64) (w64 (t24+(1:Int))))) (ja R)) ?_
         refine AtH.take [0,1,2] hgd 3 R R R R (D':=#[Y,Y,Y,Y,N,N,N,N,N,N]) (by kernel_rfl) (fun _ _ _ _ h=>h) R (je (ja R) fa_59_3) ?_
         refine AtH.take [0,1,2] hgd 4 R R R R (D':=#[Y,Y,Y,Y,Y,N,N,N,N,N]) (by kernel_rfl) (fun _ _ _ _ h=>h) R (jc (ja R) 2 R sub_Object_3 ty_41) ?_
         refine AtH.take [0,1,2] hgd 5 R R R R (D':=#[Y,Y,Y,Y,Y,Y,N,N,N,N]) (by kernel_rfl) (fun _ _ _ _ h=>h) R (jr (ja R) Tryz.underlying41) ?_
         refine AtH.take [0,1,2] hgd 6 R R R R (D':=#[Y,Y,Y,Y,Y,Y,Y,N,N,N]) (by kernel_rfl) (fun _ _ _ _ h=>h) R (jj (ja R) (ja R) (bin_rem hq67)) ?_
         refine AtH.take [0,1,2] hgd 7 R R R R (D':=#[Y,Y,Y,Y,Y,Y,Y,Y,N,N]) (by kernel_rfl) (fun _ _ _ _ h=>h) R (jx (⟨#[]⟩:BA) (ja R) (ja R) Tryz.underlying41 ty_9 hq68) ?_
         refine AtH.take [0,1,2] hgd 8 R R R R (D':=#[Y,Y,Y,Y,Y,Y,Y,Y,Y,N]) (by kernel_rfl) (fun _ _ _ _ h=>h) R (vi (K:=kStr) (ja R) ty_9) ?_
         refine AtH.take [0,1,2] hgd 9 R R R R (D':=#[Y,Y,Y,Y,Y,Y,Y,Y,Y,Y]) (by kernel_rfl) (fun _ _ _ _ h=>h) R (jd (x:=(.tv kStr (rd (⟨#[]⟩:BA) ((rd zObject p1.m.Objects t18).Refs) (Int.tmod (w64 (t24+(1:Int))) (((rd zObject p1.m.Objects t18).Refs).length:Int))))) (ja R)) ?_
         refine AtH.done (by kernel_rfl) ?_
         refine At.jy (At.seq (At.region (At.d R R R R (jb (x:=(.tv kStr (rd (⟨#[]⟩:BA) ((rd zObject p1.m.Objects t18).Refs) t24))) (ja R)) ?_)))
         refine At.d R R R R (jb (x:=(.tv kStr (rd (⟨#[]⟩:BA) ((rd zObject p1.m.Objects t18).Refs) (Int.tmod (w64 (t24+(1:Int))) (((rd zObject p1.m.Objects t18).Refs).length:Int))))) (ja R)) ?_
         refine At.d R R R R (does_smin (ja R) (ja R)) ?_
         refine At.d R R R R (jb (x:=(.tv kStr (rd (⟨#[]⟩:BA) ((rd zObject p1.m.Objects t18).Refs) t24))) (ja R)) ?_
         refine At.d R R R R (jb (x:=(.tv kStr (rd (⟨#[]⟩:BA) ((rd zObject p1.m.Objects t18).Refs) (Int.tmod (w64 (t24+(1:Int))) (((rd zObject p1.m.Objects t18).Refs).length:Int))))) (ja R)) ?_
         refine At.d R R R R (does_smax (ja R) (ja R)) ?_
         refine At.d R R R R (does_build (jq (ja R) (jq (ja R) parts_nil)) zr_50 bd_50 R (fills_cons R sub_a50_0 (fills_cons R sub_a50_1 fills_nil))) ?_
         refine At.f R (eff_alloc R R R tz_50) ?_
         rintro _ _ ⟨g28,rfl,rfl⟩
         refine At.f R (ju R R (ja R) 0 R (Sub.self (kPair kStr kStr)) ty_50 (ja R)) ?_
         rintro _ _ ⟨rfl,rfl⟩
         refine At.done (At.jy (At.seq ?_))
         refine At.draw mixed [0,1,2,3] R [[],[],[2],[]] (fun φ w hgd=>?_)
         replace hF:=W.ve hF
         refine AtH.take [0,1,2,3] hgd 0 R R R R (D':=#[Y,N,N,N,N,N,N]) (by kernel_rfl) (fun _ _ _ _ h=>h) R (jb (x:=(.eq (.map (some g2)))) (ja R)) ?_
         refine AtH.take [0,1,2,3] hgd 1 R R R R (D':=#[Y,Y,N,N,N,N,N]) (by kernel_rfl) (fun _ _ _ _ h=>h) R (jc (ja R) 0 R (Sub.self (kPair kStr kStr)) ty_50) ?_
         refine AtH.take [0,1,3] hgd 3 R R R R (D':=#[Y,Y,N,Y,N,N,N]) (by kernel_rfl) (fun _ _ _ _ h=>h) R (je (ja R) fa_59_0) ?_
         refine AtH.take [0,1,3] hgd 4 R R R R (D':=#[Y,Y,N,Y,Y,N,N]) (by kernel_rfl) (fun _ _ _ _ h=>h) R (jc (ja R) 2 R sub_Object_0 ty_9) ?_
         refine AtH.all1 2 (by kernel_rfl) ?_
         refine AtH.f [(0,0),(1,1),(3,3)] R R R R R R (eff_lookR R R R (ja R) 2 R mtr_116 (ja R)) (D':=#[Y,Y,Y,Y,Y,N,N]) (by kernel_rfl) (by kernel_rfl) ?_
         rintro _ _ ⟨v80,j38,s38,rfl,rfl⟩
         refine ⟨_,.inr ⟨R,flat_eq⟩,?_⟩
         refine AtH.all1 5 (by kernel_rfl) ?_
         refine AtH.f [(0,1),(1,2),(3,4)] R R R R R R (jm R R (lends_row 0 75 R R jo) (jp R en_36 (jf (ja R) (jf (ja R) jg))) (vv.ok hF) (by rintro _ _ ⟨r,_,rfl,_⟩;exact vd)) (D':=#[Y,Y,Y,Y,Y,Y,N]) (by kernel_rfl) (by kernel_rfl) ?_
         rintro _ _ ⟨_,_,⟨r20,hF,rfl,rfl⟩,rfl,rfl⟩
         refine ⟨_,.inr ⟨R,vd⟩,?_⟩
         refine AtH.take [0,1,3] hgd 6 R R R R (D':=#[Y,Y,Y,Y,Y,Y,Y]) (by kernel_rfl) (fun _ _ _ _ h=>h) R (does_not (ja R)) ?_
         refine AtH.done (by kernel_rfl) ?_
         refine At.jy ?_
         refine At.cond (ja R) (fun hb55=>?_) (fun hb55=>?_)
         ·replace hF:=W.ite_t hb55 hF
          refine At.region (At.d R R R R (jb (x:=(.eq (.map (some g2)))) (ja R)) ?_)
          refine At.d R R R R (jc (ja R) 1 R (Sub.self (kPair kStr kStr)) ty_50) ?_
          refine At.d R R R R (je (ja R) fa_59_0) ?_
          refine At.d R R R R (jc (ja R) 4 R sub_Object_0 ty_9) ?_
          refine At.f R (eff_lit R R R (os:=[.tmp 84]) R sl_41 (xs:=([(rd zObject p1.m.Objects t18).Id]:List BA)) (jf (ja R) jg) R R) ?_
          rintro _ _ ⟨v81,rfl,rfl⟩
          refine At.mclose 4 1 R R R ?_
          refine At.f R (eff_mapEntry R R R (ja R) 4 R mtr_116 (ja R)) ?_
          rintro _ _ ⟨v82,w55,j39,s39,rfl,rfl⟩
          refine At.d R R R R (does_extract20 (ja R)) ?_
          obtain ⟨hq69,hF⟩:=hF
          refine At.f R (eff_append_row R R R 0 1 R R (ja R) (ja R) sl_41 hq69) ?_
          rintro _ _ ⟨v83,rfl,rfl⟩
          refine At.d R R R R (does_extract21 (ja R)) ?_
          refine At.f R (eff_entryStore R R (ja R) 5 0 R R (ja R) R (ja R)) ?_
          rintro _ _ ⟨w56,rfl,rfl⟩
          refine At.done ?_
          refine At.n ?_
          refine At.jy (At.region (At.d R R R R (jj (ja R) (ji _ _) jv) ?_))
          refine At.d R R R R (jb (x:=(.tv (kInt .i64) (w64 (t24+(1:Int))))) (ja R)) ?_
          refine At.done (At.jy ?_)
          refine At.w [4,5,6] R [(1,(.eq (.pointer (some ⟨g1,0,none⟩)))),(3,(.eq (.map (some g2)))),(5,(.eq (.pointer (some ⟨g25,0,none⟩)))),(17,(.tv (kSlice kObject) p1.m.Objects)),(18,(.tv (kInt .i64) (p1.m.Objects.length:Int))),(19,(.tv (kInt .i64) t18)),(38,(.tv (kSlice kStr) ((rd zObject p1.m.Objects t18).Refs))),(39,(.tv (kInt .i64) (((rd zObject p1.m.Objects t18).Refs).length:Int))),(40,(.tv (kInt .i64) (w64 (t24+(1:Int)))))] ⟨R,R,R,R,R,R,R,R,R,trivial⟩ (At.r ⟨(mset ((sMin (rd (⟨#[]⟩:BA) ((rd zObject p1.m.Objects t18).Refs) t24) (rd (⟨#[]⟩:BA) ((rd zObject p1.m.Objects t18).Refs) (Int.tmod (w64 (t24+(1:Int))) (((rd zObject p1.m.Objects t18).Refs).length:Int)))),(sMax (rd (⟨#[]⟩:BA) ((rd zObject p1.m.Objects t18).Refs) t24) (rd (⟨#[]⟩:BA) ((rd zObject p1.m.Objects t18).Refs) (Int.tmod (w64 (t24+(1:Int))) (((rd zObject p1.m.Objects t18).Refs).length:Int))))) ((mget ((sMin (rd (⟨#[]⟩:BA) ((rd zObject p1.m.Objects t18).Refs) t24) (rd (⟨#[]⟩:BA) ((rd zObject p1.m.Objects t18).Refs) (Int.tmod (w64 (t24+(1:Int))) (((rd zObject p1.m.Objects t18).Refs).length:Int)))),(sMax (rd (⟨#[]⟩:BA) ((rd zObject p1.m.Objects t18).Refs) t24) (rd (⟨#[]⟩:BA) ((rd zObject p1.m.Objects t18).Refs) (Int.tmod (w64 (t24+(1:Int))) (((rd zObject p1.m.Objects t18).Refs).length:Int))))) ([]:List BA) x43)++([(rd zObject p1.m.Objects t18).Id]:List BA)) x43),w56,(w64 (t24+(1:Int))),hF,R,R⟩)
         ·replace hF:=W.ite_f hb55 hF
          refine At.skip ?_
          refine At.n ?_
          refine At.jy (At.region (At.d R R R R (jj (ja R) (ji _ _) jv) ?_))
          refine At.d R R R R (jb (x:=(.tv (kInt .i64) (w64 (t24+(1:Int))))) (ja R)) ?_
          refine At.done (At.jy ?_)
          refine At.mclose 3 0 R R R ?_
          refine At.w [2,3,4] R [(1,(.eq (.pointer (some ⟨g1,0,none⟩)))),(3,(.eq (.map (some g2)))),(5,(.eq (.pointer (some ⟨g25,0,none⟩)))),(17,(.tv (kSlice kObject) p1.m.Objects)),(18,(.tv (kInt .i64) (p1.m.Objects.length:Int))),(19,(.tv (kInt .i64) t18)),(38,(.tv (kSlice kStr) ((rd zObject p1.m.Objects t18).Refs))),(39,(.tv (kInt .i64) (((rd zObject p1.m.Objects t18).Refs).length:Int))),(40,(.tv (kInt .i64) (w64 (t24+(1:Int)))))] ⟨R,R,R,R,R,R,R,R,R,trivial⟩ (At.r ⟨x43,w54,(w64 (t24+(1:Int))),hF,R,R⟩)
       ·replace hF:=W.ite_f hb53 hF
        refine At.exit ?_
        refine At.x (At.x ?_)
        refine At.h ?_
        refine At.n ?_
        refine At.jy ?_
        refine At.w [0,1] R [(1,(.eq (.pointer (some ⟨g1,0,none⟩)))),(3,(.eq (.map (some g2)))),(17,(.tv (kSlice kObject) p1.m.Objects)),(18,(.tv (kInt .i64) (p1.m.Objects.length:Int))),(19,(.tv (kInt .i64) t18))] ⟨R,R,R,R,R,trivial⟩ (At.r ⟨x43,w54,hF,R,R⟩)
    ·rintro _ _ ⟨x40,w47,hF,rfl,rfl⟩
     unfold vn.c3 at hF
     refine At.region (At.d R R R R (jj (ja R) (ji _ _) jv) ?_)
     refine At.d R R R R (jb (x:=(.tv (kInt .i64) (w64 (t18+(1:Int))))) (ja R)) ?_
     refine At.done (At.jy ?_)
     refine At.w [0,1] R [(1,(.eq (.pointer (some ⟨g1,0,none⟩)))),(3,(.eq (.map (some g2)))),(17,(.tv (kSlice kObject) p1.m.Objects)),(18,(.tv (kInt .i64) (p1.m.Objects.length:Int))),(19,(.tv (kInt .i64) (w64 (t18+(1:Int)))))] ⟨R,R,R,R,R,trivial⟩ (At.r ⟨x40,w47,(w64 (t18+(1:Int))),hF,R,R⟩)
   ·replace hF:=W.ite_f hb38 hF
    refine At.exit ?_
    refine At.x (At.x ?_)
    refine At.h ?_
    refine At.jy ?_
    refine At.w [1] R [(3,(.eq (.map (some g2))))] ⟨R,trivial⟩ (At.r ⟨x36,w39,hF,R,R⟩)
 ·rintro _ _ ⟨x12,w20,hF,rfl,rfl⟩
  unfold vn.c1 at hF
  refine At.seq (At.region (At.d R R R R (jb (x:=(.eq (.map (some g2)))) (ja R)) ?_))
  refine At.d R R R R (does_len_mrow (ja R) 0 R Tryz.underlying116) ?_
  obtain ⟨hq19,hF⟩:=hF
  refine At.f R (eff_make0 R R R sl_79 (ji _ _) (ja R) hq19) ?_
  rintro _ _ ⟨v21,rfl,rfl⟩
  refine At.d R R R R (jd (x:=(.eq v21)) (ja R)) ?_
  refine At.done (At.jy ?_)
  refine At.cut (fun rs L=>∃ (x19:(List border_line)) (v29:Value),vn.c2 x19 Q∧rs=[.row v29 82 kborder_line x19]∧L=mkL [(11,(.eq v29))]) ?_ ?_
  ·refine At.seq (At.region (At.d R R R R (jb (x:=(.eq (.map (some g2)))) (ja R)) ?_))
   refine At.mrowfreeze 1 [3,91,94] R ⟨R,R,R,trivial⟩ ?_
   refine At.f R (eff_range R R R (ja R) Tryz.underlying116 (((⟨#[]⟩:BA),(⟨#[]⟩:BA)),([]:List BA))) ?_
   rintro _ _ ⟨g12,rfl,rfl⟩
   refine At.done (At.jy (At.block ?_))
   obtain ⟨n1,hF⟩:=hF
   refine At.w [1,0] R [(11,(.eq v21)),(95,(.eq (.pointer (some ⟨g12,0,none⟩))))] ⟨R,R,trivial⟩ ?_
   refine At.loop (fun m rs L=>∃ (x24:(List border_line)) (v36:Value) (x25:(List ((BA×BA)×(List BA)))) (b10:Bool) (e10:((BA×BA)×(List BA))),W.iter2 (vn.l1 (vn.c2)) m x24 x25 Q∧rs=[.row v36 82 kborder_line x24,.iter g12 (kPair kStr kStr) (kSlice kStr) x25 b10 e10]∧L=mkL [(11,(.eq v36)),(95,(.eq (.pointer (some ⟨g12,0,none⟩))))]) ?_ ?_ (m:=n1) ⟨([]:List border_line),v21,x12,false,(((⟨#[]⟩:BA),(⟨#[]⟩:BA)),([]:List BA)),hF,R,R⟩
   ·rintro rs L ⟨_,_,_,_,_,hF,_,_⟩;exact hF
   ·rintro m1 _ _ ⟨x24,v36,x25,b10,e10,hF,rfl,rfl⟩
    replace hF:=W.iter2_s hF
    unfold vn.l1 at hF
    refine At.seq (At.region (At.f R (eff_next R R R (ja R) 1 R hF) ?_))
    rintro _ _ ⟨b11,e11,l5,hF,rfl,rfl⟩
    refine At.d R R R R (does_extract_tcons (ja R)) ?_
    refine At.done (At.jy (At.seq ?_))
    refine At.cond (ja R) (fun hb21=>?_) (fun hb21=>?_)
    ·replace hF:=W.ite_t hb21 hF
     refine At.skip (At.jy (At.block (At.seq (At.region ?_))))
     obtain ⟨hq28,hF⟩:=hF
     refine At.d R R R R (does_entry (ja R) 1 R hq28) ?_
     refine At.d R R R R (does_extract20 (ja R)) ?_
     refine At.d R R R R (does_extract21 (ja R)) ?_
     refine At.f R (eff_alloc R R R tz_50) ?_
     rintro _ _ ⟨g15,rfl,rfl⟩
     refine At.f R (ju R R (ja R) 0 R (Sub.self (kPair kStr kStr)) ty_50 (ja R)) ?_
     rintro _ _ ⟨rfl,rfl⟩
     refine At.d R R R R (jd (x:=(.tv (kSlice kStr) e11.2)) (ja R)) ?_
     refine At.done (At.jy (At.region (At.d R R R R (jb (x:=(.eq v36)) (ja R)) ?_)))
     refine At.d R R R R (jc (ja R) 0 R (Sub.self (kPair kStr kStr)) ty_50) ?_
     refine At.d R R R R (jb (x:=(.tv (kSlice kStr) e11.2)) (ja R)) ?_
     refine At.d R R R R (does_build (jq (ja R) (jq (ja R) parts_nil)) zr_82 bd_82 R (fills_cons R sub_border_line_0 (fills_cons R sub_border_line_1 fills_nil))) ?_
     refine At.f R (eff_lit R R R (os:=[.tmp 104]) R sl_79 (xs:=([(⟨e11.1,e11.2⟩:border_line)]:List border_line)) (jf (ja R) jg) R R) ?_
     rintro _ _ ⟨v37,rfl,rfl⟩
     obtain ⟨hq29,hF⟩:=hF
     refine At.f R (eff_append_row R R R 2 0 R R (ja R) (ja R) sl_79 hq29) ?_
     rintro _ _ ⟨v38,rfl,rfl⟩
     refine At.d R R R R (jd (x:=(.eq v38)) (ja R)) ?_
     refine At.done ?_
     refine At.n ?_
     refine At.jy ?_
     refine At.w [2,3] R [(11,(.eq v38)),(95,(.eq (.pointer (some ⟨g12,0,none⟩))))] ⟨R,R,trivial⟩ (At.r ⟨(x24++([(⟨e11.1,e11.2⟩:border_line)]:List border_line)),v38,l5,b11,e11,hF,R,R⟩)
    ·replace hF:=W.ite_f hb21 hF
     refine At.exit ?_
     refine At.x (At.x ?_)
     refine At.h ?_
     refine At.jy ?_
     refine At.w [0] R [(11,(.eq v36))] ⟨R,trivial⟩ (At.r ⟨x24,v36,hF,R,R⟩)
  ·rintro _ _ ⟨x19,v29,hF,rfl,rfl⟩
   unfold vn.c2 at hF
   refine At.seq (At.region (At.d R R R R (jb (x:=(.eq v29)) (ja R)) ?_))
   replace hF:=W.ve hF
   refine At.f R (jn R R (jp R en_66 (jf (ja R) (jf (opd_fn 67) jg))) [0] R (slices_SortFunc_border_line_border_line__o_border_parcel_lines_1.ok hF)) ?_
   rintro _ _ ⟨_,_,⟨r7,hF,rfl,rfl⟩,rfl,rfl⟩
   refine At.done (At.jy (At.seq (At.region (At.d R R R R (jb (x:=(.eq v29)) (ja R)) ?_))))
   refine At.d R R R R (jd (x:=(.eq v29)) (ja R)) ?_
   refine At.done (At.jy (At.ret ?_))
   exact At.j rfl (rv_tmp rfl) [0] rfl ⟨r7,_,hF,rfl,rfl⟩
def border_parcel_point.F (p1:border_parcel) (id1:BA):W Point:=W.req (0≤(mget id1 (0:Int) p1.at_)∧(mget id1 (0:Int) p1.at_)<(p1.m.Objects.length:Int)) (W.ret ((rd zObject p1.m.Objects (mget id1 (0:Int) p1.at_)).At))
theorem border_parcel_point.ok {p1:border_parcel} {id1:BA} {Q:Point→Prop} (hF:border_parcel_point.F p1 id1 Q):Con Tryz.prog 35 [.tv kborder_parcel p1,.tv kStr id1] [] (fun ta rs'=>∃ (r:Point),Q r∧ta=.tv kPoint r∧rs'=[]):=by
 refine Con.i Tryz.func35 Tryz.ntmps35 R R (fun C=>?_)
 unfold border_parcel_point.F at hF
 refine At.seq (At.region (At.f R (eff_box R R R (ja R)) ?_))
 rintro _ _ ⟨g1,rfl,rfl⟩
 refine At.f R (eff_alloc R R R tz_37) ?_
 rintro _ _ ⟨g2,rfl,rfl⟩
 refine At.done (At.jy (At.seq (At.region (At.d R R R R (je (ja R) fa_76_0) ?_))))
 refine At.d R R R R (je (ja R) fa_24_0) ?_
 refine At.d R R R R (jc (ja R) 1 R sub_border_parcel_0_0 ty_22) ?_
 refine At.d R R R R (je (ja R) fa_76_1) ?_
 refine At.d R R R R (jc (ja R) 1 R sub_border_parcel_1 ty_74) ?_
 refine At.d R R R R (jb (x:=(.tv kStr id1)) (ja R)) ?_
 refine At.d R R R R (does_lookF (ja R) mt_74 (ja R)) ?_
 obtain ⟨hq1,hF⟩:=hF
 refine At.d R R R R (jx zObject (ja R) (ja R) Tryz.underlying22 ty_59 hq1) ?_
 refine At.d R R R R (vq (K:=kObject) (ja R) fa_59_2 sub_Object_2) ?_
 refine At.d R R R R (vi (K:=kPoint) (ja R) ty_37) ?_
 refine At.f R (ju R R (ja R) 0 R (Sub.self kPoint) ty_37 (ja R)) ?_
 rintro _ _ ⟨rfl,rfl⟩
 refine At.done (At.jy (At.ret ?_))
 exact At.j rfl (rv_cell rfl 0 rfl ty_37) [] rfl ⟨(rd zObject p1.m.Objects (mget id1 (0:Int) p1.at_)).At,hF,rfl,rfl⟩
def vr.c1 (x4:(List Segment)):W (List Segment):=W.ret x4
def vr.l1 (p1:border_parcel) (l1:(List border_line)) (K1:(List Segment)→W (List Segment)) (A1:(List Segment)→Int→W (List Segment)) (x7:(List Segment)) (t6:Int):W (List Segment):=W.ite (decide (t6<(l1.length:Int))) (W.req (0≤t6∧t6<(l1.length:Int)) (W.bind (border_parcel_point.F p1 ((rd zborder_line l1 t6).nodes.1)) (fun r9=>W.bind (border_parcel_point.F p1 ((rd zborder_line l1 t6).nodes.2)) (fun r10=>W.req ((x7.length+([(⟨r9,r10⟩:Segment)]:List Segment).length)*32≤140737488355328∧x7.length+([(⟨r9,r10⟩:Segment)]:List Segment).length≤140737488355328) (A1 (x7++([(⟨r9,r10⟩:Segment)]:List Segment)) (w64 (t6+(1:Int)))))))) (K1 x7)
def vr.F (p1:border_parcel) (l1:(List border_line)):W (List Segment):=W.ex fun n=>W.iter2 (vr.l1 p1 l1 (vr.c1)) n ([]:List Segment) (0:Int)
theorem vr.ok {p1:border_parcel} {l1:(List border_line)} {Q:(List Segment)→Prop} (hF:vr.F p1 l1 Q):Con Tryz.prog 32 [.tv kborder_parcel p1,.tv (kSlice kborder_line) l1] [] (fun ta rs'=>∃ (r:(List Segment)) (u0:Value),Q r∧ta=.eq u0∧rs'=[.row u0 39 kSegment r]):=by
 refine Con.i Tryz.func32 Tryz.ntmps32 R R (fun C=>?_)
 unfold vr.F at hF
 refine At.seq (At.region (At.f R (eff_box R R R (ja R)) ?_))
 rintro _ _ ⟨g1,rfl,rfl⟩
 refine At.d R R R R (jd (x:=(.eq (.slice none 0 0))) (opd_eq _)) ?_
 refine At.done (At.jy (At.seq (At.region (At.d R R R R (jd (x:=(.eq (.slice none 0 0))) (opd_eq _)) ?_))))
 refine At.done (At.jy ?_)
 refine At.cut (fun rs L=>∃ (x4:(List Segment)) (v12:Value),vr.c1 x4 Q∧rs=[.row v12 39 kSegment x4]∧L=mkL [(5,(.eq v12))]) ?_ ?_
 ·refine At.seq (At.region (At.d R R R R (jb (x:=(.tv (kSlice kborder_line) l1)) (ja R)) ?_))
  refine At.d R R R R (jr (ja R) Tryz.underlying79) ?_
  refine At.d R R R R (jb (x:=(.tv (kInt .i64) (0:Int))) (ji _ _)) ?_
  refine At.done (At.jy (At.block ?_))
  refine At.nilrow 39 kSegment ?_
  obtain ⟨n1,hF⟩:=hF
  refine At.w [1,0] R [(2,(.eq (.pointer (some ⟨g1,0,none⟩)))),(5,(.eq (.slice none 0 0))),(8,(.tv (kSlice kborder_line) l1)),(9,(.tv (kInt .i64) (l1.length:Int))),(10,(.tv (kInt .i64) (0:Int)))] ⟨R,R,R,R,R,trivial⟩ ?_
  refine At.loop (fun m rs L=>∃ (x7:(List Segment)) (v23:Value) (t6:Int),W.iter2 (vr.l1 p1 l1 (vr.c1)) m x7 t6 Q∧rs=[.box g1 76 kborder_parcel p1,.row v23 39 kSegment x7]∧L=mkL [(2,(.eq (.pointer (some ⟨g1,0,none⟩)))),(5,(.eq v23)),(8,(.tv (kSlice kborder_line) l1)),(9,(.tv (kInt .i64) (l1.length:Int))),(10,(.tv (kInt .i64) t6))]) ?_ ?_ (m:=n1) ⟨([]:List Segment),(.slice none 0 0),(0:Int),hF,R,R⟩
  ·rintro rs L ⟨_,_,_,hF,_,_⟩;exact hF
  ·rintro m1 _ _ ⟨x7,v23,t6,hF,rfl,rfl⟩
   replace hF:=W.iter2_s hF
   unfold vr.l1 at hF
   refine At.seq (At.region (At.d R R R R (jj (ja R) (ja R) jw) ?_))
   refine At.done (At.jy (At.seq ?_))
   refine At.cond (ja R) (fun hb5=>?_) (fun hb5=>?_)
   ·replace hF:=W.ite_t hb5 hF
    refine At.skip (At.jy (At.seq (At.block (At.seq (At.region ?_)))))
    obtain ⟨hq9,hF⟩:=hF
    refine At.d R R R R (jx zborder_line (ja R) (ja R) Tryz.underlying79 ty_82 hq9) ?_
    refine At.d R R R R (vi (K:=kborder_line) (ja R) ty_82) ?_
    refine At.f R (eff_alloc R R R tz_82) ?_
    rintro _ _ ⟨g6,rfl,rfl⟩
    refine At.f R (ju R R (ja R) 0 R (Sub.self kborder_line) ty_82 (ja R)) ?_
    rintro _ _ ⟨rfl,rfl⟩
    refine At.done (At.jy ?_)
    refine At.draw mixed [0,1,2] R [[],[],[13]] (fun φ w hgd=>?_)
    replace hF:=W.ve hF
    refine AtH.take [0,1,2] hgd 0 R R R R (D':=#[Y,N,N,N,N,N,N,N,N,N,N,N,N,N,N]) (by kernel_rfl) (fun _ _ _ _ h=>h) R (jb (x:=(.eq v23)) (ja R)) ?_
    refine AtH.take [0,1] hgd 1 R R R R (D':=#[Y,Y,N,N,N,N,N,N,N,N,N,N,N,N,N]) (by kernel_rfl) (fun _ _ _ _ h=>h) R (jc (ja R) 1 R (Sub.self kborder_parcel) ty_76) ?_
    refine AtH.take [0,1] hgd 2 R R R R (D':=#[Y,Y,Y,N,N,N,N,N,N,N,N,N,N,N,N]) (by kernel_rfl) (fun _ _ _ _ h=>h) R (je (ja R) fa_82_0) ?_
    refine AtH.take [0,1] hgd 3 R R R R (D':=#[Y,Y,Y,Y,N,N,N,N,N,N,N,N,N,N,N]) (by kernel_rfl) (fun _ _ _ _ h=>h) R (does_aidx_box (ja R) (ji _ _) ia_50_0) ?_
    refine AtH.take [0,1] hgd 4 R R R R (D':=#[Y,Y,Y,Y,Y,N,N,N,N,N,N,N,N,N,N]) (by kernel_rfl) (fun _ _ _ _ h=>h) R (jc (ja R) 0 R sub_border_line_0_0 ty_9) ?_
    refine AtH.take [0,1] hgd 6 R R R R (D':=#[Y,Y,Y,Y,Y,N,Y,N,N,N,N,N,N,N,N]) (by kernel_rfl) (fun _ _ _ _ h=>h) R (jc (ja R) 1 R (Sub.self kborder_parcel) ty_76) ?_
    refine AtH.take [0,1] hgd 7 R R R R (D':=#[Y,Y,Y,Y,Y,N,Y,Y,N,N,N,N,N,N,N]) (by kernel_rfl) (fun _ _ _ _ h=>h) R (je (ja R) fa_82_0) ?_
    refine AtH.take [0,1] hgd 8 R R R R (D':=#[Y,Y,Y,Y,Y,N,Y,Y,Y,N,N,N,N,N,N]) (by kernel_rfl) (fun _ _ _ _ h=>h) R (does_aidx_box (ja R) (ji _ _) ia_50_1) ?_
    refine AtH.take [0,1] hgd 9 R R R R (D':=#[Y,Y,Y,Y,Y,N,Y,Y,Y,Y,N,N,N,N,N]) (by kernel_rfl) (fun _ _ _ _ h=>h) R (jc (ja R) 0 R sub_border_line_0_1 ty_9) ?_
    refine AtH.all1 5 (by kernel_rfl) ?_
    refine AtH.f [(0,0),(1,1),(2,2)] R R R R R R (jm R R jo (jp R en_35 (jf (ja R) (jf (ja R) jg))) (border_parcel_point.ok hF) (by rintro _ _ ⟨r,_,rfl,_⟩;exact (flat_tv flat_Point))) (D':=#[Y,Y,Y,Y,Y,Y,Y,Y,Y,Y,N,N,N,N,N]) (by kernel_rfl) (by kernel_rfl) ?_
    rintro _ _ ⟨_,_,⟨r9,hF,rfl,rfl⟩,rfl,rfl⟩
    refine ⟨_,.inr ⟨R,(flat_tv flat_Point)⟩,?_⟩
    replace hF:=W.ve hF
    refine AtH.all1 10 (by kernel_rfl) ?_
    refine AtH.f [(0,0),(1,1),(2,2)] R R R R R R (jm R R jo (jp R en_35 (jf (ja R) (jf (ja R) jg))) (border_parcel_point.ok hF) (by rintro _ _ ⟨r,_,rfl,_⟩;exact (flat_tv flat_Point))) (D':=#[Y,Y,Y,Y,Y,Y,Y,Y,Y,Y,Y,N,N,N,N]) (by kernel_rfl) (by kernel_rfl) ?_
    rintro _ _ ⟨_,_,⟨r10,hF,rfl,rfl⟩,rfl,rfl⟩
    refine ⟨_,.inr ⟨R,(flat_tv flat_Point)⟩,?_⟩
    obtain ⟨hq10,hF⟩:=hF
    refine AtH.take [0,1] hgd 11 R R R R (D':=#[Y,Y,Y,Y,Y,Y,Y,Y,Y,Y,Y,Y,N,N,N]) (by kernel_rfl) (fun _ _ _ _ h=>h) R (does_build (jq (ja R) (jq (ja R) parts_nil)) zr_39 bd_39 R (fills_cons R vo (fills_cons R vp fills_nil))) ?_
    refine AtH.all1 12 (by kernel_rfl) ?_
    refine AtH.f [(0,0),(1,1),(2,2)] R R R R R R (eff_lit R R R (os:=[.tmp 25]) R sl_27 (xs:=([(⟨r9,r10⟩:Segment)]:List Segment)) (jf (ja R) jg) R R) (D':=#[Y,Y,Y,Y,Y,Y,Y,Y,Y,Y,Y,Y,Y,N,N]) (by kernel_rfl) (by kernel_rfl) ?_
    rintro _ _ ⟨v26,rfl,rfl⟩
    refine ⟨_,.inr ⟨R,flat_eq⟩,?_⟩
    refine AtH.all1 13 (by kernel_rfl) ?_
    refine AtH.f [(0,1),(1,2)] R R R R R R (eff_append_row R R R 3 0 R R (ja R) (ja R) sl_27 hq10) (D':=#[Y,Y,Y,Y,Y,Y,Y,Y,Y,Y,Y,Y,Y,Y,N]) (by kernel_rfl) (by kernel_rfl) ?_
    rintro _ _ ⟨v27,rfl,rfl⟩
    refine ⟨_,.inr ⟨R,flat_eq⟩,?_⟩
    refine AtH.take [0,1] hgd 14 R R R R (D':=#[Y,Y,Y,Y,Y,Y,Y,Y,Y,Y,Y,Y,Y,Y,Y]) (by kernel_rfl) (fun _ _ _ _ h=>h) R (jd (x:=(.eq v27)) (ja R)) ?_
    refine AtH.done (by kernel_rfl) ?_
    refine At.n ?_
    refine At.jy (At.region (At.d R R R R (jj (ja R) (ji _ _) jv) ?_))
    refine At.d R R R R (jb (x:=(.tv (kInt .i64) (w64 (t6+(1:Int))))) (ja R)) ?_
    refine At.done (At.jy ?_)
    refine At.w [2,3] R [(2,(.eq (.pointer (some ⟨g1,0,none⟩)))),(5,(.eq v27)),(8,(.tv (kSlice kborder_line) l1)),(9,(.tv (kInt .i64) (l1.length:Int))),(10,(.tv (kInt .i64) (w64 (t6+(1:Int)))))] ⟨R,R,R,R,R,trivial⟩ (At.r ⟨(x7++([(⟨r9,r10⟩:Segment)]:List Segment)),v27,(w64 (t6+(1:Int))),hF,R,R⟩)
   ·replace hF:=W.ite_f hb5 hF
    refine At.exit ?_
    refine At.x (At.x ?_)
    refine At.h ?_
    refine At.jy ?_
    refine At.w [1] R [(5,(.eq v23))] ⟨R,trivial⟩ (At.r ⟨x7,v23,hF,R,R⟩)
 ·rintro _ _ ⟨x4,v12,hF,rfl,rfl⟩
  unfold vr.c1 at hF
  refine At.seq (At.region (At.d R R R R (jb (x:=(.eq v12)) (ja R)) ?_))
  refine At.d R R R R (jd (x:=(.eq v12)) (ja R)) ?_
  refine At.done (At.jy (At.ret ?_))
  exact At.j rfl (rv_tmp rfl) [0] rfl ⟨x4,_,hF,rfl,rfl⟩
def vf.c1 (s1:(List BA)):W (List BA):=W.ret s1
def vf.c2 (k34:Int) (A1:Int→W (List BA)):W (List BA):=A1 (w64 (k34+(1:Int)))
def vf.c3 (x24:(List BA)) (k48:Int):W (List BA):=W.req (0≤k48∧k48≤(x24.length:Int)) (W.req (x24.length≤x24.length) (W.req (0≤k48∧k48≤((x24.take k48.toNat++(List.replicate (x24.length-k48.toNat) (⟨#[]⟩:BA)++x24.drop x24.length)).length:Int)) (W.req (k48.toNat≤(x24.take k48.toNat++(List.replicate (x24.length-k48.toNat) (⟨#[]⟩:BA)++x24.drop x24.length)).length) (W.ret ((x24.take k48.toNat++(List.replicate (x24.length-k48.toNat) (⟨#[]⟩:BA)++x24.drop x24.length)).take k48.toNat)))))
def vf.l2 (s1:(List BA)) (k34:Int) (K3:(List BA)→Int→W (List BA)) (A2:(List BA)→Int→Int→W (List BA)) (x27:(List BA)) (k53:Int) (k54:Int):W (List BA):=W.ite (decide (k54<((s1.length-k34.toNat:Nat):Int))) (W.req (0≤k54∧k54<((s1.length-k34.toNat:Nat):Int)) (W.req (0≤(((k34.toNat:Nat):Int)+k54)∧(((k34.toNat:Nat):Int)+k54)<(x27.length:Int)) (W.req (0≤(w64 (k54-(1:Int)))∧(w64 (k54-(1:Int)))<((s1.length-k34.toNat:Nat):Int)) (W.req (0≤(((k34.toNat:Nat):Int)+(w64 (k54-(1:Int))))∧(((k34.toNat:Nat):Int)+(w64 (k54-(1:Int))))<(x27.length:Int)) (W.ite (!(sEq (rd (⟨#[]⟩:BA) x27 (((k34.toNat:Nat):Int)+k54)) (rd (⟨#[]⟩:BA) x27 (((k34.toNat:Nat):Int)+(w64 (k54-(1:Int))))))) (W.req (0≤k54∧k54<((s1.length-k34.toNat:Nat):Int)) (W.req (0≤(((k34.toNat:Nat):Int)+k54)∧(((k34.toNat:Nat):Int)+k54)<(x27.length:Int)) (W.req (0≤k53∧k53<(x27.length:Int)) (W.req (0≤k53∧k53<(x27.length:Int)) (A2 (x27.set k53.toNat (rd (⟨#[]⟩:BA) x27 (((k34.toNat:Nat):Int)+k54))) (w64 (k53+(1:Int))) (w64 (k54+(1:Int)))))))) (A2 x27 k53 (w64 (k54+(1:Int))))))))) (K3 x27 k53)
def vf.l1 (s1:(List BA)) (K1:W (List BA)) (A1:Int→W (List BA)) (k34:Int):W (List BA):=W.ite (decide (k34<(s1.length:Int))) (W.req (0≤k34∧k34<(s1.length:Int)) (W.req (0≤(w64 (k34-(1:Int)))∧(w64 (k34-(1:Int)))<(s1.length:Int)) (W.ite (sEq (rd (⟨#[]⟩:BA) s1 k34) (rd (⟨#[]⟩:BA) s1 (w64 (k34-(1:Int))))) (W.req (0≤k34∧k34≤(s1.length:Int)) (W.ex fun n=>W.iter3 (vf.l2 s1 k34 (vf.c3)) n s1 k34 (1:Int))) ((vf.c2 k34 A1))))) (K1)
def vf.F (s1:(List BA)):W (List BA):=W.ite (decide ((s1.length:Int)<(2:Int))) (W.ret s1) (W.ex fun n=>W.iter1 (vf.l1 s1 (vf.c1 s1)) n (1:Int))
theorem vf.ok {s1:(List BA)} {v1:Value} {Q:(List BA)→Prop} (hF:vf.F s1 Q):Con Tryz.prog 38 [.eq v1] [.row v1 50 kStr s1] (fun ta rs'=>∃ (r:(List BA)) (u0:Value),Q r∧ta=.eq u0∧rs'=[.row u0 50 kStr r]):=by
 refine Con.i Tryz.func38 Tryz.ntmps38 R R (fun C=>?_)
 unfold vf.F at hF
 refine At.seq (At.region (At.d R R R R (jd (x:=(.eq (.slice none 0 0))) (opd_eq _)) ?_))
 refine At.done (At.jy (At.seq (At.seq (At.region (At.d R R R R (jb (x:=(.eq v1)) (ja R)) ?_)))))
 refine At.d R R R R (does_len_row (ja R) 0 R Tryz.underlying41) ?_
 refine At.d R R R R (jj (ja R) (ji _ _) jw) ?_
 refine At.done (At.jy ?_)
 refine At.cond (ja R) (fun hb1=>?_) (fun hb1=>?_)
 ·replace hF:=W.ite_t hb1 hF
  refine At.seq (At.region (At.d R R R R (jb (x:=(.eq v1)) (ja R)) ?_))
  refine At.d R R R R (jd (x:=(.eq v1)) (ja R)) ?_
  refine At.done (At.jy (At.ret (At.jz ?_)))
  exact At.j rfl (rv_tmp rfl) [0] rfl ⟨s1,_,hF,rfl,rfl⟩
 ·replace hF:=W.ite_f hb1 hF
  refine At.skip (At.jy ?_)
  refine At.cut (fun rs L=>∃ _:Unit,vf.c1 s1 Q∧rs=[.row v1 50 kStr s1]∧L=mkL [(0,(.eq v1))]) ?_ ?_
  ·refine At.seq (At.region (At.d R R R R (jd (x:=(.tv (kInt .i64) (1:Int))) (ji _ _)) ?_))
   refine At.done (At.jy (At.block ?_))
   obtain ⟨n2,hF⟩:=hF
   refine At.w [0] R [(0,(.eq v1)),(3,(.tv (kInt .i64) (1:Int)))] ⟨R,R,trivial⟩ ?_
   refine At.loop (fun m rs L=>∃ (k34:Int),W.iter1 (vf.l1 s1 (vf.c1 s1)) m k34 Q∧rs=[.row v1 50 kStr s1]∧L=mkL [(0,(.eq v1)),(3,(.tv (kInt .i64) k34))]) ?_ ?_ (m:=n2) ⟨(1:Int),hF,R,R⟩
   ·rintro rs L ⟨_,hF,_,_⟩;exact hF
   ·rintro m1 _ _ ⟨k34,hF,rfl,rfl⟩
    replace hF:=W.iter1_s hF
    unfold vf.l1 at hF
    refine At.seq (At.seq (At.region (At.d R R R R (jb (x:=(.tv (kInt .i64) k34)) (ja R)) ?_)))
    refine At.d R R R R (jb (x:=(.eq v1)) (ja R)) ?_
    refine At.d R R R R (does_len_row (ja R) 0 R Tryz.underlying41) ?_
    refine At.d R R R R (jj (ja R) (ja R) jw) ?_
    refine At.done (At.jy ?_)
    refine At.cond (ja R) (fun hb26=>?_) (fun hb26=>?_)
    ·replace hF:=W.ite_t hb26 hF
     refine At.skip (At.jy ?_)
     refine At.cut (fun rs L=>∃ _:Unit,vf.c2 k34 (W.iter1 (vf.l1 s1 (vf.c1 s1)) m1) Q∧rs=[.row v1 50 kStr s1]∧L=mkL [(0,(.eq v1)),(3,(.tv (kInt .i64) k34))]) ?_ ?_
     ·refine At.block (At.seq ?_)
      refine At.draw mixed [0] R [[]] (fun φ w hgd=>?_)
      obtain ⟨hq111,hF⟩:=hF
      obtain ⟨hq112,hF⟩:=hF
      refine AtH.take [0] hgd 0 R R R R (D':=#[Y,N,N,N,N,N,N,N,N,N]) (by kernel_rfl) (fun _ _ _ _ h=>h) R (jb (x:=(.eq v1)) (ja R)) ?_
      refine AtH.take [0] hgd 1 R R R R (D':=#[Y,Y,N,N,N,N,N,N,N,N]) (by kernel_rfl) (fun _ _ _ _ h=>h) R (jb (x:=(.tv (kInt .i64) k34)) (ja R)) ?_
      refine AtH.take [0] hgd 2 R R R R (D':=#[Y,Y,Y,N,N,N,N,N,N,N]) (by kernel_rfl) (fun _ _ _ _ h=>h) R (does_idx_row (ja R) 0 R (ja R) Tryz.underlying41 ty_9 hq111) ?_
      refine AtH.take [0] hgd 3 R R R R (D':=#[Y,Y,Y,Y,N,N,N,N,N,N]) (by kernel_rfl) (fun _ _ _ _ h=>h) R (does_load_elem (ja R) 0 R k34 0 R (⟨#[]⟩:BA) hq111 (Sub.self kStr) ty_9) ?_
      refine AtH.take [0] hgd 4 R R R R (D':=#[Y,Y,Y,Y,Y,N,N,N,N,N]) (by kernel_rfl) (fun _ _ _ _ h=>h) R (jb (x:=(.eq v1)) (ja R)) ?_
      refine AtH.take [0] hgd 5 R R R R (D':=#[Y,Y,Y,Y,Y,Y,N,N,N,N]) (by kernel_rfl) (fun _ _ _ _ h=>h) R (jb (x:=(.tv (kInt .i64) k34)) (ja R)) ?_
      refine AtH.take [0] hgd 6 R R R R (D':=#[Y,Y,Y,Y,Y,Y,Y,N,N,N]) (by kernel_rfl) (fun _ _ _ _ h=>h) R (jj (ja R) (ji _ _) bin_sub) ?_
      refine AtH.take [0] hgd 7 R R R R (D':=#[Y,Y,Y,Y,Y,Y,Y,Y,N,N]) (by kernel_rfl) (fun _ _ _ _ h=>h) R (does_idx_row (ja R) 0 R (ja R) Tryz.underlying41 ty_9 hq112) ?_
      refine AtH.take [0] hgd 8 R R R R (D':=#[Y,Y,Y,Y,Y,Y,Y,Y,Y,N]) (by kernel_rfl) (fun _ _ _ _ h=>h) R (does_load_elem (ja R) 0 R (w64 (k34-(1:Int))) 0 R (⟨#[]⟩:BA) hq112 (Sub.self kStr) ty_9) ?_
      refine AtH.take [0] hgd 9 R R R R (D':=#[Y,Y,Y,Y,Y,Y,Y,Y,Y,Y]) (by kernel_rfl) (fun _ _ _ _ h=>h) R (jj (ja R) (ja R) bin_seql) ?_
      refine AtH.done (by kernel_rfl) ?_
      refine At.jy ?_
      refine At.cond (ja R) (fun hb32=>?_) (fun hb32=>?_)
      ·replace hF:=W.ite_t hb32 hF
       refine At.seq (At.region (At.d R R R R (jb (x:=(.eq v1)) (ja R)) ?_))
       refine At.d R R R R (jb (x:=(.tv (kInt .i64) k34)) (ja R)) ?_
       obtain ⟨hq113,hF⟩:=hF
       refine At.d R R R R (does_cutrow_l (ja R) 0 R (ja R) Tryz.underlying41 ty_9 hq113) ?_
       refine At.d R R R R (jd (x:=(cutv k34.toNat s1.length kStr.sz v1)) (ja R)) ?_
       refine At.done (At.jy ?_)
       refine At.cut (fun rs L=>∃ (x24:(List BA)) (k48:Int),vf.c3 x24 k48 Q∧rs=[.row v1 50 kStr x24]∧L=mkL [(0,(.eq v1)),(3,(.tv (kInt .i64) k48))]) ?_ ?_
       ·refine At.seq (At.region (At.d R R R R (jd (x:=(.tv (kInt .i64) (1:Int))) (ji _ _)) ?_))
        refine At.done (At.jy (At.block ?_))
        obtain ⟨n1,hF⟩:=hF
        refine At.w [0] R [(0,(.eq v1)),(3,(.tv (kInt .i64) k34)),(4,(cutv k34.toNat s1.length kStr.sz v1)),(5,(.tv (kInt .i64) (1:Int)))] ⟨R,R,R,R,trivial⟩ ?_
        refine At.loop (fun m rs L=>∃ (x27:(List BA)) (k53:Int) (k54:Int),W.iter3 (vf.l2 s1 k34 (vf.c3)) m x27 k53 k54 Q∧rs=[.row v1 50 kStr x27]∧L=mkL [(0,(.eq v1)),(3,(.tv (kInt .i64) k53)),(4,(cutv k34.toNat s1.length kStr.sz v1)),(5,(.tv (kInt .i64) k54))]) ?_ ?_ (m:=n1) ⟨s1,k34,(1:Int),hF,R,R⟩
        ·rintro rs L ⟨_,_,_,hF,_,_⟩;exact hF
        ·rintro m2 _ _ ⟨x27,k53,k54,hF,rfl,rfl⟩
         replace hF:=W.iter3_s hF
         unfold vf.l2 at hF
         refine At.seq (At.seq (At.region (At.d R R R R (jb (x:=(.tv (kInt .i64) k54)) (ja R)) ?_)))
         refine At.d R R R R (jb (x:=(cutv k34.toNat s1.length kStr.sz v1)) (ja R)) ?_
         refine At.d R R R R (does_len_cut (ja R) Tryz.underlying41) ?_
         refine At.d R R R R (jj (ja R) (ja R) jw) ?_
         refine At.done (At.jy ?_)
         refine At.cond (ja R) (fun hb41=>?_) (fun hb41=>?_)
         ·replace hF:=W.ite_t hb41 hF
          refine At.skip (At.jy (At.seq (At.block (At.seq ?_))))
          refine At.draw mixed [0] R [[]] (fun φ w hgd=>?_)
          obtain ⟨hq150,hF⟩:=hF
          obtain ⟨hq151,hF⟩:=hF
          obtain ⟨hq152,hF⟩:=hF
          obtain ⟨hq153,hF⟩:=hF
          refine AtH.take [0] hgd 0 R R R R (D':=#[Y,N,N,N,N,N,N,N,N,N]) (by kernel_rfl) (fun _ _ _ _ h=>h) R (jb (x:=(cutv k34.toNat s1.length kStr.sz v1)) (ja R)) ?_
          refine AtH.take [0] hgd 1 R R R R (D':=#[Y,Y,N,N,N,N,N,N,N,N]) (by kernel_rfl) (fun _ _ _ _ h=>h) R (jb (x:=(.tv (kInt .i64) k54)) (ja R)) ?_
          refine AtH.take [0] hgd 2 R R R R (D':=#[Y,Y,Y,N,N,N,N,N,N,N]) (by kernel_rfl) (fun _ _ _ _ h=>h) R (does_idx_cut (ja R) 0 R (ja R) Tryz.underlying41 ty_9 hq150) ?_
          refine AtH.take [0] hgd 3 R R R R (D':=#[Y,Y,Y,Y,N,N,N,N,N,N]) (by kernel_rfl) (fun _ _ _ _ h=>h) R (does_load_elem (ja R) 0 R (((k34.toNat:Nat):Int)+k54) 0 R (⟨#[]⟩:BA) hq151 (Sub.self kStr) ty_9) ?_
          refine AtH.take [0] hgd 4 R R R R (D':=#[Y,Y,Y,Y,Y,N,N,N,N,N]) (by kernel_rfl) (fun _ _ _ _ h=>h) R (jb (x:=(cutv k34.toNat s1.length kStr.sz v1)) (ja R)) ?_
          refine AtH.take [0] hgd 5 R R R R (D':=#[Y,Y,Y,Y,Y,Y,N,N,N,N]) (by kernel_rfl) (fun _ _ _ _ h=>h) R (jb (x:=(.tv (kInt .i64) k54)) (ja R)) ?_
          refine AtH.take [0] hgd 6 R R R R (D':=#[Y,Y,Y,Y,Y,Y,Y,N,N,N]) (by kernel_rfl) (fun _ _ _ _ h=>h) R (jj (ja R) (ji _ _) bin_sub) ?_
          refine AtH.take [0] hgd 7 R R R R (D':=#[Y,Y,Y,Y,Y,Y,Y,Y,N,N]) (by kernel_rfl) (fun _ _ _ _ h=>h) R (does_idx_cut (ja R) 0 R (ja R) Tryz.underlying41 ty_9 hq152) ?_
          refine AtH.take [0] hgd 8 R R R R (D':=#[Y,Y,Y,Y,Y,Y,Y,Y,Y,N]) (by kernel_rfl) (fun _ _ _ _ h=>h) R (does_load_elem (ja R) 0 R (((k34.toNat:Nat):Int)+(w64 (k54-(1:Int)))) 0 R (⟨#[]⟩:BA) hq153 (Sub.self kStr) ty_9) ?_
          refine AtH.take [0] hgd 9 R R R R (D':=#[Y,Y,Y,Y,Y,Y,Y,Y,Y,Y]) (by kernel_rfl) (fun _ _ _ _ h=>h) R (jj (ja R) (ja R) bin_sneq) ?_
          refine AtH.done (by kernel_rfl) ?_
          refine At.jy ?_
          refine At.cond (ja R) (fun hb42=>?_) (fun hb42=>?_)
          ·replace hF:=W.ite_t hb42 hF
           refine At.seq (At.region (At.d R R R R (jb (x:=(.eq v1)) (ja R)) ?_))
           refine At.d R R R R (jb (x:=(.tv (kInt .i64) k53)) (ja R)) ?_
           refine At.d R R R R (jb (x:=(cutv k34.toNat s1.length kStr.sz v1)) (ja R)) ?_
           refine At.d R R R R (jb (x:=(.tv (kInt .i64) k54)) (ja R)) ?_
           obtain ⟨hq154,hF⟩:=hF
           refine At.d R R R R (does_idx_cut (ja R) 0 R (ja R) Tryz.underlying41 ty_9 hq154) ?_
           obtain ⟨hq155,hF⟩:=hF
           refine At.d R R R R (does_load_elem (ja R) 0 R (((k34.toNat:Nat):Int)+k54) 0 R (⟨#[]⟩:BA) hq155 (Sub.self kStr) ty_9) ?_
           obtain ⟨hq156,hF⟩:=hF
           refine At.d R R R R (does_idx_row (ja R) 0 R (ja R) Tryz.underlying41 ty_9 hq156) ?_
           obtain ⟨hq157,hF⟩:=hF
           refine At.f R (eff_store_elem R R (ja R) 0 R k53 0 R (⟨#[]⟩:BA) hq157 (Sub.self kStr) ty_9 (ja R)) ?_
           rintro _ _ ⟨rfl,rfl⟩
           refine At.done (At.jy (At.region (At.d R R R R (jb (x:=(.tv (kInt .i64) k53)) (ja R)) ?_)))
           refine At.d R R R R (jj (ja R) (ji _ _) jv) ?_
           refine At.d R R R R (jd (x:=(.tv (kInt .i64) (w64 (k53+(1:Int))))) (ja R)) ?_
           refine At.done ?_
           refine At.n ?_
           refine At.jy (At.region (At.d R R R R (jb (x:=(.tv (kInt .i64) k54)) (ja R)) ?_))
           refine At.d R R R R (jj (ja R) (ji _ _) jv) ?_
           refine At.d R R R R (jd (x:=(.tv (kInt .i64) (w64 (k54+(1:Int))))) (ja R)) ?_
           refine At.done (At.jy ?_)
           refine At.w [0] R [(0,(.eq v1)),(3,(.tv (kInt .i64) (w64 (k53+(1:Int))))),(4,(cutv k34.toNat s1.length kStr.sz v1)),(5,(.tv (kInt .i64) (w64 (k54+(1:Int)))))] ⟨R,R,R,R,trivial⟩ (At.r ⟨(x27.set k53.toNat (rd (⟨#[]⟩:BA) x27 (((k34.toNat:Nat):Int)+k54))),(w64 (k53+(1:Int))),(w64 (k54+(1:Int))),hF,R,R⟩)
          ·replace hF:=W.ite_f hb42 hF
           refine At.skip ?_
           refine At.n ?_
           refine At.jy (At.region (At.d R R R R (jb (x:=(.tv (kInt .i64) k54)) (ja R)) ?_))
           refine At.d R R R R (jj (ja R) (ji _ _) jv) ?_
           refine At.d R R R R (jd (x:=(.tv (kInt .i64) (w64 (k54+(1:Int))))) (ja R)) ?_
           refine At.done (At.jy ?_)
           refine At.w [0] R [(0,(.eq v1)),(3,(.tv (kInt .i64) k53)),(4,(cutv k34.toNat s1.length kStr.sz v1)),(5,(.tv (kInt .i64) (w64 (k54+(1:Int)))))] ⟨R,R,R,R,trivial⟩ (At.r ⟨x27,k53,(w64 (k54+(1:Int))),hF,R,R⟩)
         ·replace hF:=W.ite_f hb41 hF
          refine At.exit ?_
          refine At.x (At.x ?_)
          refine At.h ?_
          refine At.jy ?_
          refine At.w [0] R [(0,(.eq v1)),(3,(.tv (kInt .i64) k53))] ⟨R,R,trivial⟩ (At.r ⟨x27,k53,hF,R,R⟩)
       ·rintro _ _ ⟨x24,k48,hF,rfl,rfl⟩
        unfold vf.c3 at hF
        refine At.seq (At.region (At.d R R R R (jb (x:=(.eq v1)) (ja R)) ?_))
        refine At.d R R R R (jb (x:=(.tv (kInt .i64) k48)) (ja R)) ?_
        obtain ⟨hq130,hF⟩:=hF
        refine At.d R R R R (does_cutrow_l (ja R) 0 R (ja R) Tryz.underlying41 ty_9 hq130) ?_
        obtain ⟨hq131,hF⟩:=hF
        refine At.f R (eff_clear_cut R R 0 R (ja R) hq131 Tryz.underlying41 tz_9) ?_
        rintro _ _ ⟨rfl,rfl⟩
        refine At.done (At.jy (At.seq (At.region (At.d R R R R (jb (x:=(.eq v1)) (ja R)) ?_))))
        refine At.d R R R R (jb (x:=(.tv (kInt .i64) k48)) (ja R)) ?_
        obtain ⟨hq132,hF⟩:=hF
        refine At.d R R R R (does_cutrow_h (ja R) 0 R (ja R) Tryz.underlying41 ty_9 hq132) ?_
        refine At.d R R R R (jd (x:=(cutv 0 k48.toNat kStr.sz v1)) (ja R)) ?_
        refine At.done (At.jy (At.ret ?_))
        refine At.q ?_
        refine At.jz (At.jz ?_)
        refine At.q ?_
        refine At.jz ?_
        obtain ⟨hq133,hF⟩:=hF
        refine At.cutrow 0 2 R R hq133 (fun v2=>?_)
        exact At.j rfl (rv_tmp rfl) [0] rfl ⟨((x24.take k48.toNat++(List.replicate (x24.length-k48.toNat) (⟨#[]⟩:BA)++x24.drop x24.length)).take k48.toNat),_,hF,rfl,rfl⟩
      ·replace hF:=W.ite_f hb32 hF
       refine At.skip ?_
       refine At.n ?_
       refine At.jy ?_
       refine At.w [0] R [(0,(.eq v1)),(3,(.tv (kInt .i64) k34))] ⟨R,R,trivial⟩ (At.r ⟨(),hF,R,R⟩)
     ·rintro _ _ ⟨_,hF,rfl,rfl⟩
      unfold vf.c2 at hF
      refine At.region (At.d R R R R (jb (x:=(.tv (kInt .i64) k34)) (ja R)) ?_)
      refine At.d R R R R (jj (ja R) (ji _ _) jv) ?_
      refine At.d R R R R (jd (x:=(.tv (kInt .i64) (w64 (k34+(1:Int))))) (ja R)) ?_
      refine At.done (At.jy ?_)
      refine At.w [0] R [(0,(.eq v1)),(3,(.tv (kInt .i64) (w64 (k34+(1:Int)))))] ⟨R,R,trivial⟩ (At.r ⟨(w64 (k34+(1:Int))),hF,R,R⟩)
    ·replace hF:=W.ite_f hb26 hF
     refine At.exit ?_
     refine At.x (At.x ?_)
     refine At.h ?_
     refine At.jy ?_
     refine At.w [0] R [(0,(.eq v1))] ⟨R,trivial⟩ (At.r ⟨(),hF,R,R⟩)
  ·rintro _ _ ⟨_,hF,rfl,rfl⟩
   unfold vf.c1 at hF
   refine At.seq (At.region (At.d R R R R (jb (x:=(.eq v1)) (ja R)) ?_))
   refine At.d R R R R (jd (x:=(.eq v1)) (ja R)) ?_
   refine At.done (At.jy (At.ret ?_))
   exact At.j rfl (rv_tmp rfl) [0] rfl ⟨s1,_,hF,rfl,rfl⟩
def vt.c1 (s1:(List BA)) (s2:(List BA)):W Int:=W.ite (decide ((s1.length:Int)<(s2.length:Int))) (W.ret (-1:Int)) (W.ret (0:Int))
def vt.l1 (s1:(List BA)) (s2:(List BA)) (K1:W Int) (A1:Int→W Int) (t6:Int):W Int:=W.ite (decide (t6<(s1.length:Int))) (W.req (0≤t6∧t6<(s1.length:Int)) (W.ite (decide ((s2.length:Int)≤t6)) (W.ret (1:Int)) (W.req (0≤t6∧t6<(s2.length:Int)) (W.bind (cmp_Compare_string.F (rd (⟨#[]⟩:BA) s1 t6) (rd (⟨#[]⟩:BA) s2 t6)) (fun r5=>W.ite (r5 != (0:Int)) (W.ret r5) (A1 (w64 (t6+(1:Int))))))))) (K1)
def vt.F (s1:(List BA)) (s2:(List BA)):W Int:=W.ex fun n=>W.iter1 (vt.l1 s1 s2 (vt.c1 s1 s2)) n (0:Int)
theorem vt.ok {s1:(List BA)} {s2:(List BA)} {Q:Int→Prop} (hF:vt.F s1 s2 Q):Con Tryz.prog 41 [.tv (kSlice kStr) s1,.tv (kSlice kStr) s2] [] (fun ta rs'=>∃ (r:Int),Q r∧ta=.tv (kInt .i64) r∧rs'=[]):=by
 refine Con.i Tryz.func41 Tryz.ntmps41 R R (fun C=>?_)
 unfold vt.F at hF
 refine At.seq (At.region (At.d R R R R (jd (x:=(.tv (kInt .i64) (0:Int))) (ji _ _)) ?_))
 refine At.done (At.jy ?_)
 refine At.cut (fun rs L=>∃ _:Unit,vt.c1 s1 s2 Q∧rs=[]∧L=mkL [(0,(.tv (kSlice kStr) s1)),(1,(.tv (kSlice kStr) s2))]) ?_ ?_
 ·refine At.seq (At.region (At.d R R R R (jb (x:=(.tv (kSlice kStr) s1)) (ja R)) ?_))
  refine At.d R R R R (jr (ja R) Tryz.underlying41) ?_
  refine At.d R R R R (jb (x:=(.tv (kInt .i64) (0:Int))) (ji _ _)) ?_
  refine At.done (At.jy (At.block ?_))
  obtain ⟨n1,hF⟩:=hF
  refine At.w [] R [(0,(.tv (kSlice kStr) s1)),(1,(.tv (kSlice kStr) s2)),(9,(.tv (kSlice kStr) s1)),(10,(.tv (kInt .i64) (s1.length:Int))),(11,(.tv (kInt .i64) (0:Int)))] ⟨R,R,R,R,R,trivial⟩ ?_
  refine At.loop (fun m rs L=>∃ (t6:Int),W.iter1 (vt.l1 s1 s2 (vt.c1 s1 s2)) m t6 Q∧rs=[]∧L=mkL [(0,(.tv (kSlice kStr) s1)),(1,(.tv (kSlice kStr) s2)),(9,(.tv (kSlice kStr) s1)),(10,(.tv (kInt .i64) (s1.length:Int))),(11,(.tv (kInt .i64) t6))]) ?_ ?_ (m:=n1) ⟨(0:Int),hF,R,R⟩
  ·rintro rs L ⟨_,hF,_,_⟩;exact hF
  ·rintro m1 _ _ ⟨t6,hF,rfl,rfl⟩
   replace hF:=W.iter1_s hF
   unfold vt.l1 at hF
   refine At.seq (At.region (At.d R R R R (jj (ja R) (ja R) jw) ?_))
   refine At.done (At.jy (At.seq ?_))
   refine At.cond (ja R) (fun hb14=>?_) (fun hb14=>?_)
   ·replace hF:=W.ite_t hb14 hF
    refine At.skip (At.jy (At.seq (At.block (At.seq (At.region (At.d R R R R (jb (x:=(.tv (kInt .i64) t6)) (ja R)) ?_))))))
    obtain ⟨hq9,hF⟩:=hF
    refine At.d R R R R (jx (⟨#[]⟩:BA) (ja R) (ja R) Tryz.underlying41 ty_9 hq9) ?_
    refine At.d R R R R (vi (K:=kStr) (ja R) ty_9) ?_
    refine At.d R R R R (jd (x:=(.tv (kInt .i64) t6)) (ja R)) ?_
    refine At.d R R R R (jd (x:=(.tv kStr (rd (⟨#[]⟩:BA) s1 t6))) (ja R)) ?_
    refine At.done (At.jy (At.seq (At.seq (At.region (At.d R R R R (jb (x:=(.tv (kInt .i64) t6)) (ja R)) ?_)))))
    refine At.d R R R R (jb (x:=(.tv (kSlice kStr) s2)) (ja R)) ?_
    refine At.d R R R R (jr (ja R) Tryz.underlying41) ?_
    refine At.d R R R R (jj (ja R) (ja R) bin_geq) ?_
    refine At.done (At.jy ?_)
    refine At.cond (ja R) (fun hb15=>?_) (fun hb15=>?_)
    ·replace hF:=W.ite_t hb15 hF
     refine At.seq (At.region (At.d R R R R (jd (x:=(.tv (kInt .i64) (1:Int))) (ji _ _)) ?_))
     refine At.done (At.jy (At.ret (At.jz ?_)))
     refine At.q ?_
     refine At.jz (At.jz ?_)
     refine At.q ?_
     refine At.jz ?_
     exact At.j rfl (rv_tmp rfl) [] rfl ⟨(1:Int),hF,rfl,rfl⟩
    ·replace hF:=W.ite_f hb15 hF
     refine At.skip (At.jy (At.seq (At.region (At.d R R R R (jb (x:=(.tv (kSlice kStr) s2)) (ja R)) ?_))))
     refine At.d R R R R (jb (x:=(.tv (kInt .i64) t6)) (ja R)) ?_
     obtain ⟨hq10,hF⟩:=hF
     refine At.d R R R R (jx (⟨#[]⟩:BA) (ja R) (ja R) Tryz.underlying41 ty_9 hq10) ?_
     refine At.d R R R R (vi (K:=kStr) (ja R) ty_9) ?_
     refine At.d R R R R (jd (x:=(.tv kStr (rd (⟨#[]⟩:BA) s2 t6))) (ja R)) ?_
     refine At.done (At.jy (At.seq (At.region (At.d R R R R (jb (x:=(.tv kStr (rd (⟨#[]⟩:BA) s1 t6))) (ja R)) ?_))))
     refine At.d R R R R (jb (x:=(.tv kStr (rd (⟨#[]⟩:BA) s2 t6))) (ja R)) ?_
     replace hF:=W.ve hF
     refine At.f R (jm R R jo (jp R en_73 (jf (ja R) (jf (ja R) jg))) (cmp_Compare_string.ok hF) (by rintro _ _ ⟨r,_,rfl,_⟩;exact flat_int)) ?_
     rintro _ _ ⟨_,_,⟨r5,hF,rfl,rfl⟩,rfl,rfl⟩
     refine At.d R R R R (jd (x:=(.tv (kInt .i64) r5)) (ja R)) ?_
     refine At.done (At.jy (At.seq (At.region (At.d R R R R (jb (x:=(.tv (kInt .i64) r5)) (ja R)) ?_))))
     refine At.d R R R R (jj (ja R) (ji _ _) bin_neq) ?_
     refine At.done (At.jy ?_)
     refine At.cond (ja R) (fun hb16=>?_) (fun hb16=>?_)
     ·replace hF:=W.ite_t hb16 hF
      refine At.seq (At.region (At.d R R R R (jb (x:=(.tv (kInt .i64) r5)) (ja R)) ?_))
      refine At.d R R R R (jd (x:=(.tv (kInt .i64) r5)) (ja R)) ?_
      refine At.done (At.jy (At.ret ?_))
      refine At.q ?_
      refine At.jz (At.jz ?_)
      refine At.q ?_
      refine At.jz ?_
      exact At.j rfl (rv_tmp rfl) [] rfl ⟨r5,hF,rfl,rfl⟩
     ·replace hF:=W.ite_f hb16 hF
      refine At.skip ?_
      refine At.n ?_
      refine At.jy (At.region (At.d R R R R (jj (ja R) (ji _ _) jv) ?_))
      refine At.d R R R R (jb (x:=(.tv (kInt .i64) (w64 (t6+(1:Int))))) (ja R)) ?_
      refine At.done (At.jy ?_)
      refine At.w [] R [(0,(.tv (kSlice kStr) s1)),(1,(.tv (kSlice kStr) s2)),(9,(.tv (kSlice kStr) s1)),(10,(.tv (kInt .i64) (s1.length:Int))),(11,(.tv (kInt .i64) (w64 (t6+(1:Int)))))] ⟨R,R,R,R,R,trivial⟩ (At.r ⟨(w64 (t6+(1:Int))),hF,R,R⟩)
   ·replace hF:=W.ite_f hb14 hF
    refine At.exit ?_
    refine At.x (At.x ?_)
    refine At.h ?_
    refine At.jy ?_
    refine At.w [] R [(0,(.tv (kSlice kStr) s1)),(1,(.tv (kSlice kStr) s2))] ⟨R,R,trivial⟩ (At.r ⟨(),hF,R,R⟩)
 ·rintro _ _ ⟨_,hF,rfl,rfl⟩
  unfold vt.c1 at hF
  refine At.seq (At.seq (At.region (At.d R R R R (jb (x:=(.tv (kSlice kStr) s1)) (ja R)) ?_)))
  refine At.d R R R R (jr (ja R) Tryz.underlying41) ?_
  refine At.d R R R R (jb (x:=(.tv (kSlice kStr) s2)) (ja R)) ?_
  refine At.d R R R R (jr (ja R) Tryz.underlying41) ?_
  refine At.d R R R R (jj (ja R) (ja R) jw) ?_
  refine At.done (At.jy ?_)
  refine At.cond (ja R) (fun hb7=>?_) (fun hb7=>?_)
  ·replace hF:=W.ite_t hb7 hF
   refine At.seq (At.region (At.d R R R R (jd (x:=(.tv (kInt .i64) (-1:Int))) (ji _ _)) ?_))
   refine At.done (At.jy (At.ret (At.jz ?_)))
   exact At.j rfl (rv_tmp rfl) [] rfl ⟨(-1:Int),hF,rfl,rfl⟩
  ·replace hF:=W.ite_f hb7 hF
   refine At.skip (At.jy (At.seq (At.region (At.d R R R R (jd (x:=(.tv (kInt .i64) (0:Int))) (ji _ _)) ?_))))
   refine At.done (At.jy (At.ret ?_))
   exact At.j rfl (rv_tmp rfl) [] rfl ⟨(0:Int),hF,rfl,rfl⟩
def border_Check_2.F (a1:Violation) (b1:Violation):W Int:=W.bind (vt.F a1.Ids b1.Ids) (fun r1=>W.ret r1)
theorem border_Check_2.ok {a1:Violation} {b1:Violation} {Q:Int→Prop} (hF:border_Check_2.F a1 b1 Q):Con Tryz.prog 40 [.tv kViolation a1,.tv kViolation b1] [] (fun ta rs'=>∃ (r:Int),Q r∧ta=.tv (kInt .i64) r∧rs'=[]):=by
 refine Con.i Tryz.func40 Tryz.ntmps40 R R (fun C=>?_)
 unfold border_Check_2.F at hF
 refine At.seq (At.region (At.f R (eff_box R R R (ja R)) ?_))
 rintro _ _ ⟨g1,rfl,rfl⟩
 refine At.f R (eff_box R R R (ja R)) ?_
 rintro _ _ ⟨g2,rfl,rfl⟩
 refine At.d R R R R (jd (x:=(.tv (kInt .i64) (0:Int))) (ji _ _)) ?_
 refine At.done (At.jy (At.seq (At.region (At.d R R R R (je (ja R) fa_43_2) ?_))))
 refine At.d R R R R (jc (ja R) 1 R sub_Violation_2 ty_41) ?_
 refine At.d R R R R (je (ja R) fa_43_2) ?_
 refine At.d R R R R (jc (ja R) 0 R sub_Violation_2 ty_41) ?_
 replace hF:=W.ve hF
 refine At.f R (jm R R jo (jp R en_41 (jf (ja R) (jf (ja R) jg))) (vt.ok hF) (by rintro _ _ ⟨r,_,rfl,_⟩;exact flat_int)) ?_
 rintro _ _ ⟨_,_,⟨r1,hF,rfl,rfl⟩,rfl,rfl⟩
 refine At.d R R R R (jd (x:=(.tv (kInt .i64) r1)) (ja R)) ?_
 refine At.done (At.jy (At.ret ?_))
 exact At.j rfl (rv_tmp rfl) [] rfl ⟨r1,hF,rfl,rfl⟩
def slices_SortFunc_api_Violation_api_Violation__o_border_Check_2.F (x:(List Violation)):W (List Violation):=W.sort (fun a b=>border_Check_2.F a b) x W.ret
theorem slices_SortFunc_api_Violation_api_Violation__o_border_Check_2.ok {x:(List Violation)} {u:Value} {Q:(List Violation)→Prop} (hF:slices_SortFunc_api_Violation_api_Violation__o_border_Check_2.F x Q):Con Tryz.prog 39 [.eq u,.cls 40 0 (tupl [])] [.row u 43 kViolation x] (fun ta rs'=>∃ (r:(List Violation)),Q r∧ta=.eq (.tuple #[])∧rs'=[.row u 43 kViolation r]):=by
 obtain ⟨hl,cf,hO,hc,hk⟩:=hF
 exact (con_sortFunc Tryz.sort39 rfl rfl ty_43 en_40 (fun a b ha hb=>(border_Check_2.ok (hc a b ha hb)).mono (by rintro ta rs' ⟨r,rfl,rfl,rfl⟩;rfl)) hO hl).mono (by rintro ta rs' ⟨ys,hp,hs,rfl,rfl⟩;exact ⟨ys,hk ys hp hs,rfl,rfl⟩)
def border_Check.c4 (x91:(List Violation)):W (List Violation):=W.bind (slices_SortFunc_api_Violation_api_Violation__o_border_Check_2.F x91) (fun r35=>W.ret r35)
def border_Check.l1 (K4:(List Violation)→W (List Violation)) (A1:(List Violation)→(List ((BA×BA)×Bool))→W (List Violation)) (x96:(List Violation)) (x97:(List ((BA×BA)×Bool))):W (List Violation):=W.next x97 (((⟨#[]⟩:BA),(⟨#[]⟩:BA)),false) (fun b16 e16 l7=>W.ite b16 (W.req (b16=true) (W.bind (vf.F ([e16.1.1,e16.1.2]:List BA)) (fun r38=>W.req ((x96.length+([(⟨(⟨#[]⟩:BA),(2:Int),r38⟩:Violation)]:List Violation).length)*48≤140737488355328∧x96.length+([(⟨(⟨#[]⟩:BA),(2:Int),r38⟩:Violation)]:List Violation).length≤140737488355328) (A1 (x96++([(⟨(⟨#[]⟩:BA),(2:Int),r38⟩:Violation)]:List Violation)) l7)))) (K4 x96))
def border_Check.c3 (x84:(List ((BA×BA)×Bool))):W (List Violation):=W.ex fun n=>W.iter2 (border_Check.l1 (border_Check.c4)) n ([]:List Violation) x84
def border_Check.c6 (t69:Int) (A3:(List ((BA×BA)×Bool))→Int→W (List Violation)) (x146:(List ((BA×BA)×Bool))):W (List Violation):=A3 x146 (w64 (t69+(1:Int)))
def border_Check.l4 (x130:border_line) (x131:border_line) (t69:Int) (K6:(List ((BA×BA)×Bool))→W (List Violation)) (A4:(List ((BA×BA)×Bool))→Int→W (List Violation)) (x149:(List ((BA×BA)×Bool))) (t75:Int):W (List Violation):=W.ite (decide (t75<(x131.owners.length:Int))) (W.req (0≤t75∧t75<(x131.owners.length:Int)) (W.bind (border_Check_1__b.F (rd (⟨#[]⟩:BA) x130.owners t69) (rd (⟨#[]⟩:BA) x131.owners t75) x149) (fun r61=>A4 r61 (w64 (t75+(1:Int)))))) (K6 x149)
def border_Check.l3 (A2:(List ((Int×Int)×Int))→(List ((BA×BA)×Bool))→W (List Violation)) (l10:(List ((Int×Int)×Int))) (x130:border_line) (x131:border_line) (A3:(List ((BA×BA)×Bool))→Int→W (List Violation)) (x142:(List ((BA×BA)×Bool))) (t69:Int):W (List Violation):=W.ite (decide (t69<(x130.owners.length:Int))) (W.req (0≤t69∧t69<(x130.owners.length:Int)) (W.ex fun n=>W.iter2 (border_Check.l4 x130 x131 t69 (border_Check.c6 t69 A3)) n x142 (0:Int))) (A2 l10 x142)
def border_Check.c5 (x129:(List ((BA×BA)×Bool))) (A2:(List ((Int×Int)×Int))→(List ((BA×BA)×Bool))→W (List Violation)) (e22:((Int×Int)×Int)) (l10:(List ((Int×Int)×Int))) (x130:border_line) (x131:border_line):W (List Violation):=W.bind (vv.F ([x131.nodes.1,x131.nodes.2]:List BA) x130.nodes.1) (fun r51=>W.bind (W.ite (!r51) (vv.F ([x131.nodes.1,x131.nodes.2]:List BA) x130.nodes.2) (W.ret false)) (fun r52=>W.ite ((eq_a50 x130.nodes x131.nodes)||((e22.2==(1:Int))&&(r51||r52))) (A2 l10 x129) (W.ex fun n=>W.iter2 (border_Check.l3 A2 l10 x130 x131) n x129 (0:Int))))
def border_Check.l2 (r2:(List border_line)) (K3:(List ((BA×BA)×Bool))→W (List Violation)) (A2:(List ((Int×Int)×Int))→(List ((BA×BA)×Bool))→W (List Violation)) (x128:(List ((Int×Int)×Int))) (x129:(List ((BA×BA)×Bool))):W (List Violation):=W.next x128 (((0:Int),(0:Int)),(0:Int)) (fun b22 e22 l10=>W.ite b22 (W.req (b22=true) (W.req (0≤e22.1.1∧e22.1.1<(r2.length:Int)) (W.req (0≤e22.1.2∧e22.1.2<(r2.length:Int)) ((border_Check.c5 x129 A2 e22 l10) (rd zborder_line r2 e22.1.1) (rd zborder_line r2 e22.1.2))))) (K3 x129))
def border_Check.c2 (r1:(border_parcel×Bool)) (r2:(List border_line)) (x47:(List ((BA×BA)×Bool))) (x51:(List Int)):W (List Violation):=W.bind (vr.F r1.1 r2) (fun r19=>W.bind (vg.F r19 x51 ([]:(List ((Int×Int)×Int)))) (fun r20=>W.ex fun n=>W.iter2 (border_Check.l2 r2 (border_Check.c3)) n r20 x47))
def border_Check.l5 (r2:(List border_line)) (K2:(List Int)→W (List Violation)) (A5:(List Int)→Int→W (List Violation)) (x152:(List Int)) (t78:Int):W (List Violation):=W.ite (decide (t78<(r2.length:Int))) (W.req ((x152.length+([t78]:List Int).length)*8≤140737488355328∧x152.length+([t78]:List Int).length≤140737488355328) (A5 (x152++([t78]:List Int)) (w64 (t78+(1:Int))))) (K2 x152)
def border_Check.c1 (r1:(border_parcel×Bool)) (r2:(List border_line)) (x47:(List ((BA×BA)×Bool))):W (List Violation):=W.ex fun n=>W.iter2 (border_Check.l5 r2 (border_Check.c2 r1 r2 x47)) n ([]:List Int) (0:Int)
def border_Check.c7 (t99:Int) (A6:(List (Point×(List BA)))→(List ((BA×BA)×Bool))→Int→W (List Violation)) (x217:(List (Point×(List BA)))) (x218:(List ((BA×BA)×Bool))):W (List Violation):=A6 x217 x218 (w64 (t99+(1:Int)))
def border_Check.c8 (t117:Int) (A7:(List (Point×(List BA)))→(List ((BA×BA)×Bool))→Int→W (List Violation)) (x241:(List (Point×(List BA)))) (x242:(List ((BA×BA)×Bool))):W (List Violation):=A7 x241 x242 (w64 (t117+(1:Int)))
def border_Check.c9 (r2:(List border_line)) (t99:Int) (x235:(List (Point×(List BA)))) (t117:Int) (K8:(List (Point×(List BA)))→(List ((BA×BA)×Bool))→W (List Violation)) (r98:Point) (x246:(List ((BA×BA)×Bool))):W (List Violation):=W.req (((mget r98 ([]:List BA) x235).length+([(aget_50 ((rd zborder_line r2 t99).nodes) t117)]:List BA).length)*16≤140737488355328∧(mget r98 ([]:List BA) x235).length+([(aget_50 ((rd zborder_line r2 t99).nodes) t117)]:List BA).length≤140737488355328) (K8 (mset r98 ((mget r98 ([]:List BA) x235)++([(aget_50 ((rd zborder_line r2 t99).nodes) t117)]:List BA)) x235) x246)
def border_Check.l8 (r2:(List border_line)) (t99:Int) (x235:(List (Point×(List BA)))) (t117:Int) (r98:Point) (K9:(List ((BA×BA)×Bool))→W (List Violation)) (A8:(List ((BA×BA)×Bool))→Int→W (List Violation)) (x249:(List ((BA×BA)×Bool))) (t126:Int):W (List Violation):=W.ite (decide (t126<((mget r98 ([]:List BA) x235).length:Int))) (W.req (0≤t126∧t126<((mget r98 ([]:List BA) x235).length:Int)) (W.req (0≤t126∧t126<((mget r98 ([]:List BA) x235).length:Int)) (W.bind (border_Check_1__b.F (rd (⟨#[]⟩:BA) (mget r98 ([]:List BA) x235) t126) (aget_50 ((rd zborder_line r2 t99).nodes) t117) x249) (fun r104=>A8 r104 (w64 (t126+(1:Int))))))) (K9 x249)
def border_Check.l7 (r1:(border_parcel×Bool)) (r2:(List border_line)) (t99:Int) (K7:(List (Point×(List BA)))→(List ((BA×BA)×Bool))→W (List Violation)) (A7:(List (Point×(List BA)))→(List ((BA×BA)×Bool))→Int→W (List Violation)) (x235:(List (Point×(List BA)))) (x236:(List ((BA×BA)×Bool))) (t117:Int):W (List Violation):=W.ite (decide (t117<(2:Int))) (W.req (0≤t117∧t117<(2:Int)) (W.bind (border_parcel_point.F r1.1 (aget_50 ((rd zborder_line r2 t99).nodes) t117)) (fun r98=>W.bind (vv.F (mget r98 ([]:List BA) x235) (aget_50 ((rd zborder_line r2 t99).nodes) t117)) (fun r99=>W.ite (!r99) (W.ex fun n=>W.iter2 (border_Check.l8 r2 t99 x235 t117 r98 (border_Check.c9 r2 t99 x235 t117 (border_Check.c8 t117 A7) r98)) n x236 (0:Int)) ((border_Check.c8 t117 A7) x235 x236))))) (K7 x235 x236)
def border_Check.l6 (r1:(border_parcel×Bool)) (r2:(List border_line)) (K1:(List ((BA×BA)×Bool))→W (List Violation)) (A6:(List (Point×(List BA)))→(List ((BA×BA)×Bool))→Int→W (List Violation)) (x197:(List (Point×(List BA)))) (x198:(List ((BA×BA)×Bool))) (t99:Int):W (List Violation):=W.ite (decide (t99<(r2.length:Int))) (W.req (0≤t99∧t99<(r2.length:Int)) (W.req (0≤t99∧t99<(r2.length:Int)) (W.ex fun n=>W.iter3 (border_Check.l7 r1 r2 t99 (border_Check.c7 t99 A6)) n x197 x198 (0:Int)))) (K1 x198)
def border_Check.F (m1:Map):W (List Violation):=W.bind (border_of.F m1) (fun r1=>W.ite (!r1.2) (W.ret ([]:List Violation)) (W.bind (vn.F r1.1) (fun r2=>W.ex fun n=>W.iter3 (border_Check.l6 r1 r2 (border_Check.c1 r1 r2)) n ([]:(List (Point×(List BA)))) ([]:(List ((BA×BA)×Bool))) (0:Int))))
theorem border_Check.ok {m1:Map} {Q:(List Violation)→Prop} (hF:border_Check.F m1 Q):Con Tryz.prog 16 [.tv kMap m1] [] (fun ta rs'=>∃ (r:(List Violation)) (u0:Value),Q r∧ta=.eq u0∧rs'=[.row u0 43 kViolation r]):=by
 refine Con.i Tryz.func16 Tryz.ntmps16 R R (fun C=>?_)
 unfold border_Check.F at hF
 refine At.seq (At.region (At.f R (eff_box R R R (ja R)) ?_))
 rintro _ _ ⟨g1,rfl,rfl⟩
 refine At.d R R R R (jd (x:=(.eq (.slice none 0 0))) (opd_eq _)) ?_
 refine At.done (At.jy (At.seq (At.region (At.d R R R R (jc (ja R) 0 R (Sub.self kMap) ty_24) ?_))))
 replace hF:=W.ve hF
 refine At.f R (jn R R (jp R en_30 (jf (ja R) jg)) [] R (border_of.ok hF)) ?_
 rintro _ _ ⟨_,_,⟨r1,hF,rfl,rfl⟩,rfl,rfl⟩
 refine At.d R R R R (jb (x:=(.tup2 (.tv kborder_parcel r1.1) (.tv kBool r1.2))) (ja R)) ?_
 refine At.d R R R R (does_extract20 (ja R)) ?_
 refine At.d R R R R (does_extract21 (ja R)) ?_
 refine At.f R (eff_alloc R R R tz_76) ?_
 rintro _ _ ⟨g2,rfl,rfl⟩
 refine At.f R (ju R R (ja R) 0 R (Sub.self kborder_parcel) ty_76 (ja R)) ?_
 rintro _ _ ⟨rfl,rfl⟩
 refine At.d R R R R (jd (x:=(.tv kBool r1.2)) (ja R)) ?_
 refine At.done (At.jy (At.seq (At.seq (At.region (At.d R R R R (jb (x:=(.tv kBool r1.2)) (ja R)) ?_)))))
 refine At.d R R R R (does_not (ja R)) ?_
 refine At.done (At.jy ?_)
 refine At.cond (ja R) (fun hb1=>?_) (fun hb1=>?_)
 ·replace hF:=W.ite_t hb1 hF
  refine At.seq (At.region (At.d R R R R (jd (x:=(.eq (.slice none 0 0))) (opd_eq _)) ?_))
  refine At.done (At.jy (At.ret (At.jz ?_)))
  refine At.nilrow 43 kViolation ?_
  exact At.j rfl (rv_tmp rfl) [0] rfl ⟨([]:List Violation),_,hF,rfl,rfl⟩
 ·replace hF:=W.ite_f hb1 hF
  refine At.skip (At.jy (At.seq (At.region (At.d R R R R (jc (ja R) 0 R (Sub.self kborder_parcel) ty_76) ?_))))
  replace hF:=W.ve hF
  refine At.f R (jn R R (jp R en_31 (jf (ja R) jg)) [] R (vn.ok hF)) ?_
  rintro _ _ ⟨_,_,⟨r2,v1,hF,rfl,rfl⟩,rfl,rfl⟩
  refine At.d R R R R (jd (x:=(.eq v1)) (ja R)) ?_
  refine At.done (At.jy (At.seq (At.region (At.f R (eff_makeMap R R R (kPair kStr kStr) kBool) ?_))))
  rintro _ _ ⟨g3,rfl,rfl⟩
  refine At.f R (eff_alloc R R R tz_47) ?_
  rintro _ _ ⟨g4,rfl,rfl⟩
  refine At.f R (eff_store_swap (K':=kRaw) (x':=(.map (some g3))) R R (ja R) 0 R (Swap.whole R) tyr_47 (opd_raw (ja R) R)) ?_
  rintro _ _ ⟨rfl,rfl⟩
  refine At.done (At.jy (At.seq (At.region (At.d R R R R (does_cls (firsts:=[]) (caps:=[.tmp 6]) R (jf (ja R) jg)) ?_))))
  refine At.d R R R R (jd (x:=(.cls 34 0 (tupl [(.eq (.pointer (some ⟨g4,0,none⟩)))]))) (ja R)) ?_
  refine At.done (At.jy (At.seq (At.region (At.f R (eff_makeMapR R R R kPoint 9 kStr) ?_))))
  rintro _ _ ⟨g5,rfl,rfl⟩
  refine At.d R R R R (jd (x:=(.eq (.map (some g5)))) (ja R)) ?_
  refine At.done (At.jy ?_)
  refine At.cut (fun rs L=>∃ (x47:(List ((BA×BA)×Bool))),border_Check.c1 r1 r2 x47 Q∧rs=[.box g2 76 kborder_parcel r1.1,.row v1 82 kborder_line r2,.box g4 47 kRaw (.map (some g3)),.map g3 (kPair kStr kStr) kBool x47]∧L=mkL [(3,(.eq (.pointer (some ⟨g2,0,none⟩)))),(5,(.eq v1)),(6,(.eq (.pointer (some ⟨g4,0,none⟩)))),(7,(.cls 34 0 (tupl [(.eq (.pointer (some ⟨g4,0,none⟩)))])))]) ?_ ?_
  ·refine At.seq (At.region (At.d R R R R (jb (x:=(.eq v1)) (ja R)) ?_))
   refine At.d R R R R (does_len_row (ja R) 3 R Tryz.underlying79) ?_
   refine At.d R R R R (jb (x:=(.tv (kInt .i64) (0:Int))) (ji _ _)) ?_
   refine At.done (At.jy (At.block ?_))
   obtain ⟨n8,hF⟩:=hF
   refine At.w [4,3,1,0,2] R [(3,(.eq (.pointer (some ⟨g2,0,none⟩)))),(5,(.eq v1)),(6,(.eq (.pointer (some ⟨g4,0,none⟩)))),(7,(.cls 34 0 (tupl [(.eq (.pointer (some ⟨g4,0,none⟩)))]))),(8,(.eq (.map (some g5)))),(42,(.eq v1)),(43,(.tv (kInt .i64) (r2.length:Int))),(44,(.tv (kInt .i64) (0:Int)))] ⟨R,R,R,R,R,R,R,R,trivial⟩ ?_
   refine At.loop (fun m rs L=>∃ (x197:(List (Point×(List BA)))) (w46:List Value) (x198:(List ((BA×BA)×Bool))) (t99:Int),W.iter3 (border_Check.l6 r1 r2 (border_Check.c1 r1 r2)) m x197 x198 t99 Q∧rs=[.box g2 76 kborder_parcel r1.1,.row v1 82 kborder_line r2,.box g4 47 kRaw (.map (some g3)),.mrow g5 kPoint 9 kStr w46 x197,.map g3 (kPair kStr kStr) kBool x198]∧L=mkL [(3,(.eq (.pointer (some ⟨g2,0,none⟩)))),(5,(.eq v1)),(6,(.eq (.pointer (some ⟨g4,0,none⟩)))),(7,(.cls 34 0 (tupl [(.eq (.pointer (some ⟨g4,0,none⟩)))]))),(8,(.eq (.map (some g5)))),(42,(.eq v1)),(43,(.tv (kInt .i64) (r2.length:Int))),(44,(.tv (kInt .i64) t99))]) ?_ ?_ (m:=n8) ⟨([]:(List (Point×(List BA)))),[],([]:(List ((BA×BA)×Bool))),(0:Int),hF,R,R⟩
   ·rintro rs L ⟨_,_,_,_,hF,_,_⟩;exact hF
   ·rintro m7 _ _ ⟨x197,w46,x198,t99,hF,rfl,rfl⟩
    replace hF:=W.iter3_s hF
    unfold border_Check.l6 at hF
    refine At.seq (At.region (At.d R R R R (jj (ja R) (ja R) jw) ?_))
    refine At.done (At.jy (At.seq ?_))
    refine At.cond (ja R) (fun hb94=>?_) (fun hb94=>?_)
    ·replace hF:=W.ite_t hb94 hF
     refine At.skip (At.jy ?_)
     refine At.cut (fun rs L=>∃ (x217:(List (Point×(List BA)))) (w56:List Value) (x218:(List ((BA×BA)×Bool))),border_Check.c7 t99 (W.iter3 (border_Check.l6 r1 r2 (border_Check.c1 r1 r2)) m7) x217 x218 Q∧rs=[.box g2 76 kborder_parcel r1.1,.row v1 82 kborder_line r2,.box g4 47 kRaw (.map (some g3)),.mrow g5 kPoint 9 kStr w56 x217,.map g3 (kPair kStr kStr) kBool x218]∧L=mkL [(3,(.eq (.pointer (some ⟨g2,0,none⟩)))),(5,(.eq v1)),(6,(.eq (.pointer (some ⟨g4,0,none⟩)))),(7,(.cls 34 0 (tupl [(.eq (.pointer (some ⟨g4,0,none⟩)))]))),(8,(.eq (.map (some g5)))),(42,(.eq v1)),(43,(.tv (kInt .i64) (r2.length:Int))),(44,(.tv (kInt .i64) t99))]) ?_ ?_
     ·refine At.block (At.seq (At.region ?_))
      obtain ⟨hq140,hF⟩:=hF
      refine At.d R R R R (does_idx_row (ja R) 1 R (ja R) Tryz.underlying79 ty_82 hq140) ?_
      obtain ⟨hq141,hF⟩:=hF
      refine At.d R R R R (does_load_elem (ja R) 1 R t99 0 R zborder_line hq141 (Sub.self kborder_line) ty_82) ?_
      refine At.f R (eff_alloc R R R tz_82) ?_
      rintro _ _ ⟨g82,rfl,rfl⟩
      refine At.f R (ju R R (ja R) 0 R (Sub.self kborder_line) ty_82 (ja R)) ?_
      rintro _ _ ⟨rfl,rfl⟩
      refine At.done (At.jy (At.seq (At.region (At.d R R R R (je (ja R) fa_82_0) ?_))))
      refine At.d R R R R (jc (ja R) 0 R sub_border_line_0 ty_50) ?_
      refine At.d R R R R (jb (x:=(.tv (kInt .i64) (0:Int))) (ji _ _)) ?_
      refine At.done (At.jy (At.block ?_))
      obtain ⟨n7,hF⟩:=hF
      refine At.w [1,2,3,4,5] R [(3,(.eq (.pointer (some ⟨g2,0,none⟩)))),(5,(.eq v1)),(6,(.eq (.pointer (some ⟨g4,0,none⟩)))),(7,(.cls 34 0 (tupl [(.eq (.pointer (some ⟨g4,0,none⟩)))]))),(8,(.eq (.map (some g5)))),(42,(.eq v1)),(43,(.tv (kInt .i64) (r2.length:Int))),(44,(.tv (kInt .i64) t99)),(49,(.tv (kPair kStr kStr) ((rd zborder_line r2 t99).nodes))),(50,(.tv (kInt .i64) (0:Int)))] ⟨R,R,R,R,R,R,R,R,R,R,trivial⟩ ?_
      refine At.loop (fun m rs L=>∃ (x235:(List (Point×(List BA)))) (w65:List Value) (x236:(List ((BA×BA)×Bool))) (t117:Int),W.iter3 (border_Check.l7 r1 r2 t99 (border_Check.c7 t99 (W.iter3 (border_Check.l6 r1 r2 (border_Check.c1 r1 r2)) m7))) m x235 x236 t117 Q∧rs=[.box g2 76 kborder_parcel r1.1,.row v1 82 kborder_line r2,.box g4 47 kRaw (.map (some g3)),.mrow g5 kPoint 9 kStr w65 x235,.map g3 (kPair kStr kStr) kBool x236]∧L=mkL [(3,(.eq (.pointer (some ⟨g2,0,none⟩)))),(5,(.eq v1)),(6,(.eq (.pointer (some ⟨g4,0,none⟩)))),(7,(.cls 34 0 (tupl [(.eq (.pointer (some ⟨g4,0,none⟩)))]))),(8,(.eq (.map (some g5)))),(42,(.eq v1)),(43,(.tv (kInt .i64) (r2.length:Int))),(44,(.tv (kInt .i64) t99)),(49,(.tv (kPair kStr kStr) ((rd zborder_line r2 t99).nodes))),(50,(.tv (kInt .i64) t117))]) ?_ ?_ (m:=n7) ⟨x197,w46,x198,(0:Int),hF,R,R⟩
      ·rintro rs L ⟨_,_,_,_,hF,_,_⟩;exact hF
      ·rintro m8 _ _ ⟨x235,w65,x236,t117,hF,rfl,rfl⟩
       replace hF:=W.iter3_s hF
       unfold border_Check.l7 at hF
       refine At.seq (At.region (At.d R R R R (jj (ja R) (ji _ _) jw) ?_))
       refine At.done (At.jy (At.seq ?_))
       refine At.cond (ja R) (fun hb111=>?_) (fun hb111=>?_)
       ·replace hF:=W.ite_t hb111 hF
        refine At.skip (At.jy ?_)
        refine At.cut (fun rs L=>∃ (x241:(List (Point×(List BA)))) (w68:List Value) (x242:(List ((BA×BA)×Bool))),border_Check.c8 t117 (W.iter3 (border_Check.l7 r1 r2 t99 (border_Check.c7 t99 (W.iter3 (border_Check.l6 r1 r2 (border_Check.c1 r1 r2)) m7))) m8) x241 x242 Q∧rs=[.box g2 76 kborder_parcel r1.1,.row v1 82 kborder_line r2,.box g4 47 kRaw (.map (some g3)),.mrow g5 kPoint 9 kStr w68 x241,.map g3 (kPair kStr kStr) kBool x242]∧L=mkL [(3,(.eq (.pointer (some ⟨g2,0,none⟩)))),(5,(.eq v1)),(6,(.eq (.pointer (some ⟨g4,0,none⟩)))),(7,(.cls 34 0 (tupl [(.eq (.pointer (some ⟨g4,0,none⟩)))]))),(8,(.eq (.map (some g5)))),(42,(.eq v1)),(43,(.tv (kInt .i64) (r2.length:Int))),(44,(.tv (kInt .i64) t99)),(49,(.tv (kPair kStr kStr) ((rd zborder_line r2 t99).nodes))),(50,(.tv (kInt .i64) t117))]) ?_ ?_
        ·refine At.block (At.seq (At.region ?_))
         obtain ⟨hq160,hF⟩:=hF
         refine At.d R R R R (does_index_arr (n:=2) (sz:=1) (K:=(kPair kStr kStr)) R (ja R) (ja R) Tryz.underlying50 ty_9 R hq160 (subv_50 hq160)) ?_
         refine At.d R R R R (jd (x:=(.tv kStr (aget_50 ((rd zborder_line r2 t99).nodes) t117))) (ja R)) ?_
         refine At.done (At.jy (At.seq (At.region (At.d R R R R (jc (ja R) 0 R (Sub.self kborder_parcel) ty_76) ?_))))
         refine At.d R R R R (jb (x:=(.tv kStr (aget_50 ((rd zborder_line r2 t99).nodes) t117))) (ja R)) ?_
         replace hF:=W.ve hF
         refine At.f R (jm R R jo (jp R en_35 (jf (ja R) (jf (ja R) jg))) (border_parcel_point.ok hF) (by rintro _ _ ⟨r,_,rfl,_⟩;exact (flat_tv flat_Point))) ?_
         rintro _ _ ⟨_,_,⟨r98,hF,rfl,rfl⟩,rfl,rfl⟩
         refine At.f R (eff_alloc R R R tz_37) ?_
         rintro _ _ ⟨g86,rfl,rfl⟩
         refine At.f R (ju R R (ja R) 0 R (Sub.self kPoint) ty_37 (ja R)) ?_
         rintro _ _ ⟨rfl,rfl⟩
         refine At.done (At.jy (At.seq (At.region (At.d R R R R (jb (x:=(.eq (.map (some g5)))) (ja R)) ?_))))
         refine At.d R R R R (jc (ja R) 0 R (Sub.self kPoint) ty_37) ?_
         refine At.f R (eff_lookR R R R (ja R) 4 R mtr_86 (ja R)) ?_
         rintro _ _ ⟨v107,j40,s40,rfl,rfl⟩
         refine At.d R R R R (jb (x:=(.tv kStr (aget_50 ((rd zborder_line r2 t99).nodes) t117))) (ja R)) ?_
         replace hF:=W.ve hF
         refine At.f R (jm R R (lends_row 0 58 R R jo) (jp R en_36 (jf (ja R) (jf (ja R) jg))) (vv.ok hF) (by rintro _ _ ⟨r,_,rfl,_⟩;exact vd)) ?_
         rintro _ _ ⟨_,_,⟨r99,hF,rfl,rfl⟩,rfl,rfl⟩
         refine At.d R R R R (does_not (ja R)) ?_
         refine At.done (At.jy ?_)
         refine At.cond (ja R) (fun hb115=>?_) (fun hb115=>?_)
         ·replace hF:=W.ite_t hb115 hF
          refine At.cut (fun rs L=>∃ (x246:(List ((BA×BA)×Bool))),border_Check.c9 r2 t99 x235 t117 (border_Check.c8 t117 (W.iter3 (border_Check.l7 r1 r2 t99 (border_Check.c7 t99 (W.iter3 (border_Check.l6 r1 r2 (border_Check.c1 r1 r2)) m7))) m8)) r98 x246 Q∧rs=[.box g2 76 kborder_parcel r1.1,.row v1 82 kborder_line r2,.box g4 47 kRaw (.map (some g3)),.mrow g5 kPoint 9 kStr w65 x235,.box g86 37 kPoint r98,.map g3 (kPair kStr kStr) kBool x246]∧L=mkL [(3,(.eq (.pointer (some ⟨g2,0,none⟩)))),(5,(.eq v1)),(6,(.eq (.pointer (some ⟨g4,0,none⟩)))),(7,(.cls 34 0 (tupl [(.eq (.pointer (some ⟨g4,0,none⟩)))]))),(8,(.eq (.map (some g5)))),(12,(.tv kStr (aget_50 ((rd zborder_line r2 t99).nodes) t117))),(13,(.eq (.pointer (some ⟨g86,0,none⟩)))),(42,(.eq v1)),(43,(.tv (kInt .i64) (r2.length:Int))),(44,(.tv (kInt .i64) t99)),(49,(.tv (kPair kStr kStr) ((rd zborder_line r2 t99).nodes))),(50,(.tv (kInt .i64) t117))]) ?_ ?_
          ·refine At.seq (At.region (At.d R R R R (jb (x:=(.eq (.map (some g5)))) (ja R)) ?_))
           refine At.d R R R R (jc (ja R) 1 R (Sub.self kPoint) ty_37) ?_
           refine At.mclose 5 0 R R R ?_
           refine At.f R (eff_lookR R R R (ja R) 5 R mtr_86 (ja R)) ?_
           rintro _ _ ⟨v112,j43,s43,rfl,rfl⟩
           refine At.d R R R R (does_len_row (ja R) 0 R Tryz.underlying41) ?_
           refine At.d R R R R (jb (x:=(.tv (kInt .i64) (0:Int))) (ji _ _)) ?_
           refine At.done (At.jy (At.block ?_))
           obtain ⟨n6,hF⟩:=hF
           refine At.w [3,4,5,6,2,0,7] R [(3,(.eq (.pointer (some ⟨g2,0,none⟩)))),(5,(.eq v1)),(6,(.eq (.pointer (some ⟨g4,0,none⟩)))),(7,(.cls 34 0 (tupl [(.eq (.pointer (some ⟨g4,0,none⟩)))]))),(8,(.eq (.map (some g5)))),(12,(.tv kStr (aget_50 ((rd zborder_line r2 t99).nodes) t117))),(13,(.eq (.pointer (some ⟨g86,0,none⟩)))),(42,(.eq v1)),(43,(.tv (kInt .i64) (r2.length:Int))),(44,(.tv (kInt .i64) t99)),(49,(.tv (kPair kStr kStr) ((rd zborder_line r2 t99).nodes))),(50,(.tv (kInt .i64) t117)),(64,(.eq v112)),(65,(.tv (kInt .i64) ((mget r98 ([]:List BA) x235).length:Int))),(66,(.tv (kInt .i64) (0:Int)))] ⟨R,R,R,R,R,R,R,R,R,R,R,R,R,R,R,trivial⟩ ?_
           refine At.loop (fun m rs L=>∃ (x249:(List ((BA×BA)×Bool))) (t126:Int),W.iter2 (border_Check.l8 r2 t99 x235 t117 r98 (border_Check.c9 r2 t99 x235 t117 (border_Check.c8 t117 (W.iter3 (border_Check.l7 r1 r2 t99 (border_Check.c7 t99 (W.iter3 (border_Check.l6 r1 r2 (border_Check.c1 r1 r2)) m7))) m8)) r98)) m x249 t126 Q∧rs=[.box g2 76 kborder_parcel r1.1,.row v1 82 kborder_line r2,.box g4 47 kRaw (.map (some g3)),.mhole g5 kPoint 9 kStr w65 x235 r98 j43 v112 s43,.box g86 37 kPoint r98,.row v112 9 kStr (mget r98 ([]:List BA) x235),.map g3 (kPair kStr kStr) kBool x249]∧L=mkL [(3,(.eq (.pointer (some ⟨g2,0,none⟩)))),(5,(.eq v1)),(6,(.eq (.pointer (some ⟨g4,0,none⟩)))),(7,(.cls 34 0 (tupl [(.eq (.pointer (some ⟨g4,0,none⟩)))]))),(8,(.eq (.map (some g5)))),(12,(.tv kStr (aget_50 ((rd zborder_line r2 t99).nodes) t117))),(13,(.eq (.pointer (some ⟨g86,0,none⟩)))),(42,(.eq v1)),(43,(.tv (kInt .i64) (r2.length:Int))),(44,(.tv (kInt .i64) t99)),(49,(.tv (kPair kStr kStr) ((rd zborder_line r2 t99).nodes))),(50,(.tv (kInt .i64) t117)),(64,(.eq v112)),(65,(.tv (kInt .i64) ((mget r98 ([]:List BA) x235).length:Int))),(66,(.tv (kInt .i64) t126))]) ?_ ?_ (m:=n6) ⟨x236,(0:Int),hF,R,R⟩
           ·rintro rs L ⟨_,_,hF,_,_⟩;exact hF
           ·rintro m9 _ _ ⟨x249,t126,hF,rfl,rfl⟩
            replace hF:=W.iter2_s hF
            unfold border_Check.l8 at hF
            refine At.seq (At.region (At.d R R R R (jj (ja R) (ja R) jw) ?_))
            refine At.done (At.jy (At.seq ?_))
            refine At.cond (ja R) (fun hb120=>?_) (fun hb120=>?_)
            ·replace hF:=W.ite_t hb120 hF
             refine At.skip (At.jy (At.seq (At.block (At.seq (At.region ?_)))))
             obtain ⟨hq170,hF⟩:=hF
             refine At.d R R R R (does_idx_row (ja R) 5 R (ja R) Tryz.underlying41 ty_9 hq170) ?_
             obtain ⟨hq171,hF⟩:=hF
             refine At.d R R R R (does_load_elem (ja R) 5 R t126 0 R (⟨#[]⟩:BA) hq171 (Sub.self kStr) ty_9) ?_
             refine At.d R R R R (jd (x:=(.tv kStr (rd (⟨#[]⟩:BA) (mget r98 ([]:List BA) x235) t126))) (ja R)) ?_
             refine At.done (At.jy (At.region (At.d R R R R (jb (x:=(.cls 34 0 (tupl [(.eq (.pointer (some ⟨g4,0,none⟩)))]))) (ja R)) ?_)))
             refine At.d R R R R (jb (x:=(.tv kStr (rd (⟨#[]⟩:BA) (mget r98 ([]:List BA) x235) t126))) (ja R)) ?_
             refine At.d R R R R (jb (x:=(.tv kStr (aget_50 ((rd zborder_line r2 t99).nodes) t117))) (ja R)) ?_
             replace hF:=W.ve hF
             refine At.f R (jn R R (ent_val0 R (ja R) en_34 (jf (ja R) (jf (ja R) jg))) [2,6] R (border_Check_1__b.ok hF)) ?_
             rintro _ _ ⟨_,_,⟨r104,hF,rfl,rfl⟩,rfl,rfl⟩
             refine At.done ?_
             refine At.n ?_
             refine At.jy (At.region (At.d R R R R (jj (ja R) (ji _ _) jv) ?_))
             refine At.d R R R R (jb (x:=(.tv (kInt .i64) (w64 (t126+(1:Int))))) (ja R)) ?_
             refine At.done (At.jy ?_)
             refine At.w [2,3,0,5,6,7,1] R [(3,(.eq (.pointer (some ⟨g2,0,none⟩)))),(5,(.eq v1)),(6,(.eq (.pointer (some ⟨g4,0,none⟩)))),(7,(.cls 34 0 (tupl [(.eq (.pointer (some ⟨g4,0,none⟩)))]))),(8,(.eq (.map (some g5)))),(12,(.tv kStr (aget_50 ((rd zborder_line r2 t99).nodes) t117))),(13,(.eq (.pointer (some ⟨g86,0,none⟩)))),(42,(.eq v1)),(43,(.tv (kInt .i64) (r2.length:Int))),(44,(.tv (kInt .i64) t99)),(49,(.tv (kPair kStr kStr) ((rd zborder_line r2 t99).nodes))),(50,(.tv (kInt .i64) t117)),(64,(.eq v112)),(65,(.tv (kInt .i64) ((mget r98 ([]:List BA) x235).length:Int))),(66,(.tv (kInt .i64) (w64 (t126+(1:Int)))))] ⟨R,R,R,R,R,R,R,R,R,R,R,R,R,R,R,trivial⟩ (At.r ⟨r104,(w64 (t126+(1:Int))),hF,R,R⟩)
            ·replace hF:=W.ite_f hb120 hF
             refine At.exit ?_
             refine At.x (At.x ?_)
             refine At.h ?_
             refine At.jy ?_
             refine At.mclose 3 5 R R R ?_
             refine At.w [0,1,2,3,4,6] R [(3,(.eq (.pointer (some ⟨g2,0,none⟩)))),(5,(.eq v1)),(6,(.eq (.pointer (some ⟨g4,0,none⟩)))),(7,(.cls 34 0 (tupl [(.eq (.pointer (some ⟨g4,0,none⟩)))]))),(8,(.eq (.map (some g5)))),(12,(.tv kStr (aget_50 ((rd zborder_line r2 t99).nodes) t117))),(13,(.eq (.pointer (some ⟨g86,0,none⟩)))),(42,(.eq v1)),(43,(.tv (kInt .i64) (r2.length:Int))),(44,(.tv (kInt .i64) t99)),(49,(.tv (kPair kStr kStr) ((rd zborder_line r2 t99).nodes))),(50,(.tv (kInt .i64) t117))] ⟨R,R,R,R,R,R,R,R,R,R,R,R,trivial⟩ (At.r ⟨x249,hF,R,R⟩)
          ·rintro _ _ ⟨x246,hF,rfl,rfl⟩
           unfold border_Check.c9 at hF
           refine At.region (At.d R R R R (jb (x:=(.eq (.map (some g5)))) (ja R)) ?_)
           refine At.d R R R R (jc (ja R) 4 R (Sub.self kPoint) ty_37) ?_
           refine At.d R R R R (jb (x:=(.tv kStr (aget_50 ((rd zborder_line r2 t99).nodes) t117))) (ja R)) ?_
           refine At.f R (eff_lit R R R (os:=[.tmp 78]) R sl_41 (xs:=([(aget_50 ((rd zborder_line r2 t99).nodes) t117)]:List BA)) (jf (ja R) jg) R R) ?_
           rintro _ _ ⟨v109,rfl,rfl⟩
           refine At.f R (eff_mapEntry R R R (ja R) 4 R mtr_86 (ja R)) ?_
           rintro _ _ ⟨v110,w69,j42,s42,rfl,rfl⟩
           refine At.d R R R R (does_extract20 (ja R)) ?_
           obtain ⟨hq165,hF⟩:=hF
           refine At.f R (eff_append_row R R R 0 1 R R (ja R) (ja R) sl_41 hq165) ?_
           rintro _ _ ⟨v111,rfl,rfl⟩
           refine At.d R R R R (does_extract21 (ja R)) ?_
           refine At.f R (eff_entryStore R R (ja R) 5 0 R R (ja R) R (ja R)) ?_
           rintro _ _ ⟨w70,rfl,rfl⟩
           refine At.done ?_
           refine At.n ?_
           refine At.jy ?_
           refine At.w [2,3,4,5,7] R [(3,(.eq (.pointer (some ⟨g2,0,none⟩)))),(5,(.eq v1)),(6,(.eq (.pointer (some ⟨g4,0,none⟩)))),(7,(.cls 34 0 (tupl [(.eq (.pointer (some ⟨g4,0,none⟩)))]))),(8,(.eq (.map (some g5)))),(42,(.eq v1)),(43,(.tv (kInt .i64) (r2.length:Int))),(44,(.tv (kInt .i64) t99)),(49,(.tv (kPair kStr kStr) ((rd zborder_line r2 t99).nodes))),(50,(.tv (kInt .i64) t117))] ⟨R,R,R,R,R,R,R,R,R,R,trivial⟩ (At.r ⟨(mset r98 ((mget r98 ([]:List BA) x235)++([(aget_50 ((rd zborder_line r2 t99).nodes) t117)]:List BA)) x235),w70,x246,hF,R,R⟩)
         ·replace hF:=W.ite_f hb115 hF
          refine At.skip ?_
          refine At.n ?_
          refine At.jy ?_
          refine At.mclose 5 0 R R R ?_
          refine At.w [2,3,4,5,6] R [(3,(.eq (.pointer (some ⟨g2,0,none⟩)))),(5,(.eq v1)),(6,(.eq (.pointer (some ⟨g4,0,none⟩)))),(7,(.cls 34 0 (tupl [(.eq (.pointer (some ⟨g4,0,none⟩)))]))),(8,(.eq (.map (some g5)))),(42,(.eq v1)),(43,(.tv (kInt .i64) (r2.length:Int))),(44,(.tv (kInt .i64) t99)),(49,(.tv (kPair kStr kStr) ((rd zborder_line r2 t99).nodes))),(50,(.tv (kInt .i64) t117))] ⟨R,R,R,R,R,R,R,R,R,R,trivial⟩ (At.r ⟨x235,w65,x236,hF,R,R⟩)
        ·rintro _ _ ⟨x241,w68,x242,hF,rfl,rfl⟩
         unfold border_Check.c8 at hF
         refine At.region (At.d R R R R (jj (ja R) (ji _ _) jv) ?_)
         refine At.d R R R R (jb (x:=(.tv (kInt .i64) (w64 (t117+(1:Int))))) (ja R)) ?_
         refine At.done (At.jy ?_)
         refine At.w [0,1,2,3,4] R [(3,(.eq (.pointer (some ⟨g2,0,none⟩)))),(5,(.eq v1)),(6,(.eq (.pointer (some ⟨g4,0,none⟩)))),(7,(.cls 34 0 (tupl [(.eq (.pointer (some ⟨g4,0,none⟩)))]))),(8,(.eq (.map (some g5)))),(42,(.eq v1)),(43,(.tv (kInt .i64) (r2.length:Int))),(44,(.tv (kInt .i64) t99)),(49,(.tv (kPair kStr kStr) ((rd zborder_line r2 t99).nodes))),(50,(.tv (kInt .i64) (w64 (t117+(1:Int)))))] ⟨R,R,R,R,R,R,R,R,R,R,trivial⟩ (At.r ⟨x241,w68,x242,(w64 (t117+(1:Int))),hF,R,R⟩)
       ·replace hF:=W.ite_f hb111 hF
        refine At.exit ?_
        refine At.x (At.x ?_)
        refine At.h ?_
        refine At.n ?_
        refine At.jy ?_
        refine At.w [0,1,2,3,4] R [(3,(.eq (.pointer (some ⟨g2,0,none⟩)))),(5,(.eq v1)),(6,(.eq (.pointer (some ⟨g4,0,none⟩)))),(7,(.cls 34 0 (tupl [(.eq (.pointer (some ⟨g4,0,none⟩)))]))),(8,(.eq (.map (some g5)))),(42,(.eq v1)),(43,(.tv (kInt .i64) (r2.length:Int))),(44,(.tv (kInt .i64) t99))] ⟨R,R,R,R,R,R,R,R,trivial⟩ (At.r ⟨x235,w65,x236,hF,R,R⟩)
     ·rintro _ _ ⟨x217,w56,x218,hF,rfl,rfl⟩
      unfold border_Check.c7 at hF
      refine At.region (At.d R R R R (jj (ja R) (ji _ _) jv) ?_)
      refine At.d R R R R (jb (x:=(.tv (kInt .i64) (w64 (t99+(1:Int))))) (ja R)) ?_
      refine At.done (At.jy ?_)
      refine At.w [0,1,2,3,4] R [(3,(.eq (.pointer (some ⟨g2,0,none⟩)))),(5,(.eq v1)),(6,(.eq (.pointer (some ⟨g4,0,none⟩)))),(7,(.cls 34 0 (tupl [(.eq (.pointer (some ⟨g4,0,none⟩)))]))),(8,(.eq (.map (some g5)))),(42,(.eq v1)),(43,(.tv (kInt .i64) (r2.length:Int))),(44,(.tv (kInt .i64) (w64 (t99+(1:Int)))))] ⟨R,R,R,R,R,R,R,R,trivial⟩ (At.r ⟨x217,w56,x218,(w64 (t99+(1:Int))),hF,R,R⟩)
    ·replace hF:=W.ite_f hb94 hF
     refine At.exit ?_
     refine At.x (At.x ?_)
     refine At.h ?_
     refine At.jy ?_
     refine At.w [0,1,2,4] R [(3,(.eq (.pointer (some ⟨g2,0,none⟩)))),(5,(.eq v1)),(6,(.eq (.pointer (some ⟨g4,0,none⟩)))),(7,(.cls 34 0 (tupl [(.eq (.pointer (some ⟨g4,0,none⟩)))])))] ⟨R,R,R,R,trivial⟩ (At.r ⟨x198,hF,R,R⟩)
  ·rintro _ _ ⟨x47,hF,rfl,rfl⟩
   unfold border_Check.c1 at hF
   refine At.seq (At.region (At.d R R R R (jd (x:=(.eq (.slice none 0 0))) (opd_eq _)) ?_))
   refine At.done (At.jy ?_)
   refine At.cut (fun rs L=>∃ (x51:(List Int)) (v29:Value),border_Check.c2 r1 r2 x47 x51 Q∧rs=[.box g2 76 kborder_parcel r1.1,.row v1 82 kborder_line r2,.box g4 47 kRaw (.map (some g3)),.row v29 3 (kInt .i64) x51,.map g3 (kPair kStr kStr) kBool x47]∧L=mkL [(3,(.eq (.pointer (some ⟨g2,0,none⟩)))),(5,(.eq v1)),(6,(.eq (.pointer (some ⟨g4,0,none⟩)))),(7,(.cls 34 0 (tupl [(.eq (.pointer (some ⟨g4,0,none⟩)))]))),(16,(.eq v29))]) ?_ ?_
   ·refine At.seq (At.region (At.d R R R R (jb (x:=(.eq v1)) (ja R)) ?_))
    refine At.d R R R R (does_len_row (ja R) 1 R Tryz.underlying79) ?_
    refine At.d R R R R (jb (x:=(.tv (kInt .i64) (0:Int))) (ji _ _)) ?_
    refine At.done (At.jy (At.block ?_))
    refine At.nilrow 3 (kInt .i64) ?_
    obtain ⟨n5,hF⟩:=hF
    refine At.w [1,2,3,0,4] R [(3,(.eq (.pointer (some ⟨g2,0,none⟩)))),(5,(.eq v1)),(6,(.eq (.pointer (some ⟨g4,0,none⟩)))),(7,(.cls 34 0 (tupl [(.eq (.pointer (some ⟨g4,0,none⟩)))]))),(16,(.eq (.slice none 0 0))),(86,(.tv (kInt .i64) (r2.length:Int))),(87,(.tv (kInt .i64) (0:Int)))] ⟨R,R,R,R,R,R,R,trivial⟩ ?_
    refine At.loop (fun m rs L=>∃ (x152:(List Int)) (v59:Value) (t78:Int),W.iter2 (border_Check.l5 r2 (border_Check.c2 r1 r2 x47)) m x152 t78 Q∧rs=[.box g2 76 kborder_parcel r1.1,.row v1 82 kborder_line r2,.box g4 47 kRaw (.map (some g3)),.row v59 3 (kInt .i64) x152,.map g3 (kPair kStr kStr) kBool x47]∧L=mkL [(3,(.eq (.pointer (some ⟨g2,0,none⟩)))),(5,(.eq v1)),(6,(.eq (.pointer (some ⟨g4,0,none⟩)))),(7,(.cls 34 0 (tupl [(.eq (.pointer (some ⟨g4,0,none⟩)))]))),(16,(.eq v59)),(86,(.tv (kInt .i64) (r2.length:Int))),(87,(.tv (kInt .i64) t78))]) ?_ ?_ (m:=n5) ⟨([]:List Int),(.slice none 0 0),(0:Int),hF,R,R⟩
    ·rintro rs L ⟨_,_,_,hF,_,_⟩;exact hF
    ·rintro m6 _ _ ⟨x152,v59,t78,hF,rfl,rfl⟩
     replace hF:=W.iter2_s hF
     unfold border_Check.l5 at hF
     refine At.seq (At.region (At.d R R R R (jj (ja R) (ja R) jw) ?_))
     refine At.done (At.jy (At.seq ?_))
     refine At.cond (ja R) (fun hb75=>?_) (fun hb75=>?_)
     ·replace hF:=W.ite_t hb75 hF
      refine At.skip (At.jy (At.seq (At.block (At.seq (At.region (At.d R R R R (jb (x:=(.tv (kInt .i64) t78)) (ja R)) ?_))))))
      refine At.d R R R R (jd (x:=(.tv (kInt .i64) t78)) (ja R)) ?_
      refine At.done (At.jy (At.region (At.d R R R R (jb (x:=(.eq v59)) (ja R)) ?_)))
      refine At.d R R R R (jb (x:=(.tv (kInt .i64) t78)) (ja R)) ?_
      refine At.f R (eff_lit R R R (os:=[.tmp 91]) R sl_89 (xs:=([t78]:List Int)) (jf (ja R) jg) R R) ?_
      rintro _ _ ⟨v60,rfl,rfl⟩
      obtain ⟨hq97,hF⟩:=hF
      refine At.f R (eff_append_row R R R 4 0 R R (ja R) (ja R) sl_89 hq97) ?_
      rintro _ _ ⟨v61,rfl,rfl⟩
      refine At.d R R R R (jd (x:=(.eq v61)) (ja R)) ?_
      refine At.done ?_
      refine At.n ?_
      refine At.jy (At.region (At.d R R R R (jj (ja R) (ji _ _) jv) ?_))
      refine At.d R R R R (jb (x:=(.tv (kInt .i64) (w64 (t78+(1:Int))))) (ja R)) ?_
      refine At.done (At.jy ?_)
      refine At.w [1,2,3,4,5] R [(3,(.eq (.pointer (some ⟨g2,0,none⟩)))),(5,(.eq v1)),(6,(.eq (.pointer (some ⟨g4,0,none⟩)))),(7,(.cls 34 0 (tupl [(.eq (.pointer (some ⟨g4,0,none⟩)))]))),(16,(.eq v61)),(86,(.tv (kInt .i64) (r2.length:Int))),(87,(.tv (kInt .i64) (w64 (t78+(1:Int)))))] ⟨R,R,R,R,R,R,R,trivial⟩ (At.r ⟨(x152++([t78]:List Int)),v61,(w64 (t78+(1:Int))),hF,R,R⟩)
     ·replace hF:=W.ite_f hb75 hF
      refine At.exit ?_
      refine At.x (At.x ?_)
      refine At.h ?_
      refine At.jy ?_
      refine At.w [0,1,2,3,4] R [(3,(.eq (.pointer (some ⟨g2,0,none⟩)))),(5,(.eq v1)),(6,(.eq (.pointer (some ⟨g4,0,none⟩)))),(7,(.cls 34 0 (tupl [(.eq (.pointer (some ⟨g4,0,none⟩)))]))),(16,(.eq v59))] ⟨R,R,R,R,R,trivial⟩ (At.r ⟨x152,v59,hF,R,R⟩)
   ·rintro _ _ ⟨x51,v29,hF,rfl,rfl⟩
    unfold border_Check.c2 at hF
    refine At.seq (At.region (At.f R (eff_makeMap R R R (kPair (kInt .i64) (kInt .i64)) (kInt .i64)) ?_))
    rintro _ _ ⟨g12,rfl,rfl⟩
    refine At.d R R R R (jd (x:=(.eq (.map (some g12)))) (ja R)) ?_
    refine At.done (At.jy (At.seq (At.region (At.d R R R R (jc (ja R) 1 R (Sub.self kborder_parcel) ty_76) ?_))))
    refine At.d R R R R (jb (x:=(.eq v1)) (ja R)) ?_
    refine At.freeze2 2 5 97 R R R ?_
    replace hF:=W.ve hF
    refine At.f R (jn R R (jp R en_32 (jf (ja R) (jf (ja R) jg))) [] R (vr.ok hF)) ?_
    rintro _ _ ⟨_,_,⟨r19,v30,hF,rfl,rfl⟩,rfl,rfl⟩
    refine At.d R R R R (jb (x:=(.eq v29)) (ja R)) ?_
    refine At.d R R R R (jb (x:=(.eq (.map (some g12)))) (ja R)) ?_
    refine At.freeze 0 98 R R ?_
    refine At.freeze2 5 16 99 R R R ?_
    replace hF:=W.ve hF
    refine At.f R (jn R R (jp R en_37 (jf (ja R) (jf (ja R) (jf (ja R) jg)))) [1] R (vg.ok hF)) ?_
    rintro _ _ ⟨_,_,⟨r20,hF,rfl,rfl⟩,rfl,rfl⟩
    refine At.done (At.jy ?_)
    refine At.cut (fun rs L=>∃ (x84:(List ((BA×BA)×Bool))),border_Check.c3 x84 Q∧rs=[.box g4 47 kRaw (.map (some g3)),.map g3 (kPair kStr kStr) kBool x84]∧L=mkL [(6,(.eq (.pointer (some ⟨g4,0,none⟩))))]) ?_ ?_
    ·refine At.seq (At.region (At.d R R R R (jb (x:=(.eq (.map (some g12)))) (ja R)) ?_))
     refine At.mapfreeze 0 [18,95,100,102] R ⟨R,R,R,R,trivial⟩ ?_
     refine At.f R (eff_range R R R (ja R) Tryz.underlying90 (((0:Int),(0:Int)),(0:Int))) ?_
     rintro _ _ ⟨g39,rfl,rfl⟩
     refine At.done (At.jy (At.block ?_))
     obtain ⟨n4,hF⟩:=hF
     refine At.w [6,0,8] R [(5,(.tv (kSlice kborder_line) r2)),(6,(.eq (.pointer (some ⟨g4,0,none⟩)))),(7,(.cls 34 0 (tupl [(.eq (.pointer (some ⟨g4,0,none⟩)))]))),(103,(.eq (.pointer (some ⟨g39,0,none⟩))))] ⟨R,R,R,R,trivial⟩ ?_
     refine At.loop (fun m rs L=>∃ (x128:(List ((Int×Int)×Int))) (b21:Bool) (e21:((Int×Int)×Int)) (x129:(List ((BA×BA)×Bool))),W.iter2 (border_Check.l2 r2 (border_Check.c3)) m x128 x129 Q∧rs=[.box g4 47 kRaw (.map (some g3)),.iter g39 (kPair (kInt .i64) (kInt .i64)) (kInt .i64) x128 b21 e21,.map g3 (kPair kStr kStr) kBool x129]∧L=mkL [(5,(.tv (kSlice kborder_line) r2)),(6,(.eq (.pointer (some ⟨g4,0,none⟩)))),(7,(.cls 34 0 (tupl [(.eq (.pointer (some ⟨g4,0,none⟩)))]))),(103,(.eq (.pointer (some ⟨g39,0,none⟩))))]) ?_ ?_ (m:=n4) ⟨r20,false,(((0:Int),(0:Int)),(0:Int)),x47,hF,R,R⟩
     ·rintro rs L ⟨_,_,_,_,hF,_,_⟩;exact hF
     ·rintro m3 _ _ ⟨x128,b21,e21,x129,hF,rfl,rfl⟩
      replace hF:=W.iter2_s hF
      unfold border_Check.l2 at hF
      refine At.seq (At.region (At.f R (eff_next R R R (ja R) 1 R hF) ?_))
      rintro _ _ ⟨b22,e22,l10,hF,rfl,rfl⟩
      refine At.d R R R R (does_extract_tcons (ja R)) ?_
      refine At.done (At.jy (At.seq ?_))
      refine At.cond (ja R) (fun hb59=>?_) (fun hb59=>?_)
      ·replace hF:=W.ite_t hb59 hF
       refine At.skip (At.jy (At.block (At.seq (At.region ?_))))
       obtain ⟨hq77,hF⟩:=hF
       refine At.d R R R R (does_entry (ja R) 1 R hq77) ?_
       refine At.d R R R R (does_extract20 (ja R)) ?_
       refine At.d R R R R (does_extract21 (ja R)) ?_
       refine At.f R (eff_alloc R R R tz_92) ?_
       rintro _ _ ⟨g58,rfl,rfl⟩
       refine At.f R (ju R R (ja R) 0 R (Sub.self (kPair (kInt .i64) (kInt .i64))) ty_92 (ja R)) ?_
       rintro _ _ ⟨rfl,rfl⟩
       refine At.d R R R R (jd (x:=(.tv (kInt .i64) e22.2)) (ja R)) ?_
       refine At.done (At.jy ?_)
       refine At.cut (fun rs L=>∃ (x130:border_line) (g65:Nat) (x131:border_line) (g66:Nat),border_Check.c5 x129 (W.iter2 (border_Check.l2 r2 (border_Check.c3)) m3) e22 l10 x130 x131 Q∧rs=[.box g4 47 kRaw (.map (some g3)),.box g65 82 kborder_line x130,.box g66 82 kborder_line x131,.iter g39 (kPair (kInt .i64) (kInt .i64)) (kInt .i64) l10 b22 e22,.map g3 (kPair kStr kStr) kBool x129]∧L=mkL [(5,(.tv (kSlice kborder_line) r2)),(6,(.eq (.pointer (some ⟨g4,0,none⟩)))),(7,(.cls 34 0 (tupl [(.eq (.pointer (some ⟨g4,0,none⟩)))]))),(20,(.tv (kInt .i64) e22.2)),(21,(.eq (.pointer (some ⟨g65,0,none⟩)))),(22,(.eq (.pointer (some ⟨g66,0,none⟩)))),(103,(.eq (.pointer (some ⟨g39,0,none⟩))))]) ?_ ?_
       ·refine At.draw mixed [0,1,2,3] R [[],[],[],[]] (fun φ w hgd=>?_)
        obtain ⟨hq93,hF⟩:=hF
        obtain ⟨hq94,hF⟩:=hF
        refine AtH.take [0,1,2,3] hgd 0 R R R R (D':=#[Y,N,N,N,N,N,N,N,N,N,N,N,N,N]) (by kernel_rfl) (fun _ _ _ _ h=>h) R (jb (x:=(.tv (kSlice kborder_line) r2)) (ja R)) ?_
        refine AtH.take [0,1,2,3] hgd 1 R R R R (D':=#[Y,Y,N,N,N,N,N,N,N,N,N,N,N,N]) (by kernel_rfl) (fun _ _ _ _ h=>h) R (does_aidx_box (ja R) (ji _ _) ia_92_0) ?_
        refine AtH.take [0,1,2,3] hgd 2 R R R R (D':=#[Y,Y,Y,N,N,N,N,N,N,N,N,N,N,N]) (by kernel_rfl) (fun _ _ _ _ h=>h) R (jc (ja R) 0 R sub_a92_0 ty_3) ?_
        refine AtH.take [0,1,2,3] hgd 3 R R R R (D':=#[Y,Y,Y,Y,N,N,N,N,N,N,N,N,N,N]) (by kernel_rfl) (fun _ _ _ _ h=>h) R (jx zborder_line (ja R) (ja R) Tryz.underlying79 ty_82 hq93) ?_
        refine AtH.take [0,1,2,3] hgd 4 R R R R (D':=#[Y,Y,Y,Y,Y,N,N,N,N,N,N,N,N,N]) (by kernel_rfl) (fun _ _ _ _ h=>h) R (vi (K:=kborder_line) (ja R) ty_82) ?_
        refine AtH.take [0,1,2,3] hgd 5 R R R R (D':=#[Y,Y,Y,Y,Y,Y,N,N,N,N,N,N,N,N]) (by kernel_rfl) (fun _ _ _ _ h=>h) R (jb (x:=(.tv (kSlice kborder_line) r2)) (ja R)) ?_
        refine AtH.take [0,1,2,3] hgd 6 R R R R (D':=#[Y,Y,Y,Y,Y,Y,Y,N,N,N,N,N,N,N]) (by kernel_rfl) (fun _ _ _ _ h=>h) R (does_aidx_box (ja R) (ji _ _) ia_92_1) ?_
        refine AtH.take [0,1,2,3] hgd 7 R R R R (D':=#[Y,Y,Y,Y,Y,Y,Y,Y,N,N,N,N,N,N]) (by kernel_rfl) (fun _ _ _ _ h=>h) R (jc (ja R) 0 R sub_a92_1 ty_3) ?_
        refine AtH.take [0,1,2,3] hgd 8 R R R R (D':=#[Y,Y,Y,Y,Y,Y,Y,Y,Y,N,N,N,N,N]) (by kernel_rfl) (fun _ _ _ _ h=>h) R (jx zborder_line (ja R) (ja R) Tryz.underlying79 ty_82 hq94) ?_
        refine AtH.take [0,1,2,3] hgd 9 R R R R (D':=#[Y,Y,Y,Y,Y,Y,Y,Y,Y,Y,N,N,N,N]) (by kernel_rfl) (fun _ _ _ _ h=>h) R (vi (K:=kborder_line) (ja R) ty_82) ?_
        refine AtH.all2 10 11 (by kernel_rfl) ?_ ?_
        ·refine AtH.f [(0,0),(1,1),(2,2),(3,3)] R R R R R R (eff_alloc R R R tz_82) (D':=#[Y,Y,Y,Y,Y,Y,Y,Y,Y,Y,Y,N,N,N]) (by kernel_rfl) (by kernel_rfl) ?_
         rintro _ _ ⟨g69,rfl,rfl⟩
         refine ⟨_,.inr ⟨R,flat_eq⟩,?_⟩
         refine AtH.all1 11 (by kernel_rfl) ?_
         refine AtH.f [(0,1),(1,2),(2,3),(3,4)] R R R R R R (eff_alloc R R R tz_82) (D':=#[Y,Y,Y,Y,Y,Y,Y,Y,Y,Y,Y,Y,N,N]) (by kernel_rfl) (by kernel_rfl) ?_
         rintro _ _ ⟨g70,rfl,rfl⟩
         refine ⟨_,.inr ⟨R,flat_eq⟩,?_⟩
         refine AtH.all1 12 (by kernel_rfl) ?_
         refine AtH.eff0 [(0,2),(1,3),(2,4),(3,5)] R R R R R (ju R R (ja R) 1 R (Sub.self kborder_line) ty_82 (ja R)) (D':=#[Y,Y,Y,Y,Y,Y,Y,Y,Y,Y,Y,Y,Y,N]) (by kernel_rfl) (by kernel_rfl) ?_
         rintro _ _ ⟨rfl,rfl⟩
         refine AtH.all1 13 (by kernel_rfl) ?_
         refine AtH.eff0 [(0,2),(1,3),(2,4),(3,5)] R R R R R (ju R R (ja R) 0 R (Sub.self kborder_line) ty_82 (ja R)) (D':=#[Y,Y,Y,Y,Y,Y,Y,Y,Y,Y,Y,Y,Y,Y]) (by kernel_rfl) (by kernel_rfl) ?_
         rintro _ _ ⟨rfl,rfl⟩
         refine AtH.done (by kernel_rfl) ?_
         refine At.jy ?_
         refine At.w [3,1,0,4,5] R [(5,(.tv (kSlice kborder_line) r2)),(6,(.eq (.pointer (some ⟨g4,0,none⟩)))),(7,(.cls 34 0 (tupl [(.eq (.pointer (some ⟨g4,0,none⟩)))]))),(20,(.tv (kInt .i64) e22.2)),(21,(.eq (.pointer (some ⟨g69,0,none⟩)))),(22,(.eq (.pointer (some ⟨g70,0,none⟩)))),(103,(.eq (.pointer (some ⟨g39,0,none⟩))))] ⟨R,R,R,R,R,R,R,trivial⟩ (At.r ⟨(rd zborder_line r2 e22.1.1),g69,(rd zborder_line r2 e22.1.2),g70,hF,R,R⟩)
        ·refine AtH.f [(0,0),(1,1),(2,2),(3,3)] R R R R R R (eff_alloc R R R tz_82) (D':=#[Y,Y,Y,Y,Y,Y,Y,Y,Y,Y,N,Y,N,N]) (by kernel_rfl) (by kernel_rfl) ?_
         rintro _ _ ⟨g71,rfl,rfl⟩
         refine ⟨_,.inr ⟨R,flat_eq⟩,?_⟩
         refine AtH.all1 10 (by kernel_rfl) ?_
         refine AtH.f [(0,1),(1,2),(2,3),(3,4)] R R R R R R (eff_alloc R R R tz_82) (D':=#[Y,Y,Y,Y,Y,Y,Y,Y,Y,Y,Y,Y,N,N]) (by kernel_rfl) (by kernel_rfl) ?_
         rintro _ _ ⟨g72,rfl,rfl⟩
         refine ⟨_,.inr ⟨R,flat_eq⟩,?_⟩
         refine AtH.all1 12 (by kernel_rfl) ?_
         refine AtH.eff0 [(0,2),(1,3),(2,4),(3,5)] R R R R R (ju R R (ja R) 0 R (Sub.self kborder_line) ty_82 (ja R)) (D':=#[Y,Y,Y,Y,Y,Y,Y,Y,Y,Y,Y,Y,Y,N]) (by kernel_rfl) (by kernel_rfl) ?_
         rintro _ _ ⟨rfl,rfl⟩
         refine AtH.all1 13 (by kernel_rfl) ?_
         refine AtH.eff0 [(0,2),(1,3),(2,4),(3,5)] R R R R R (ju R R (ja R) 1 R (Sub.self kborder_line) ty_82 (ja R)) (D':=#[Y,Y,Y,Y,Y,Y,Y,Y,Y,Y,Y,Y,Y,Y]) (by kernel_rfl) (by kernel_rfl) ?_
         rintro _ _ ⟨rfl,rfl⟩
         refine AtH.done (by kernel_rfl) ?_
         refine At.jy ?_
         refine At.w [3,0,1,4,5] R [(5,(.tv (kSlice kborder_line) r2)),(6,(.eq (.pointer (some ⟨g4,0,none⟩)))),(7,(.cls 34 0 (tupl [(.eq (.pointer (some ⟨g4,0,none⟩)))]))),(20,(.tv (kInt .i64) e22.2)),(21,(.eq (.pointer (some ⟨g72,0,none⟩)))),(22,(.eq (.pointer (some ⟨g71,0,none⟩)))),(103,(.eq (.pointer (some ⟨g39,0,none⟩))))] ⟨R,R,R,R,R,R,R,trivial⟩ (At.r ⟨(rd zborder_line r2 e22.1.1),g72,(rd zborder_line r2 e22.1.2),g71,hF,R,R⟩)
       ·rintro _ _ ⟨x130,g65,x131,g66,hF,rfl,rfl⟩
        unfold border_Check.c5 at hF
        refine At.seq ?_
        refine At.freezebox 2 R ?_
        refine At.ptrslot 2 22 R R (Sub.self kborder_line) ?_
        refine At.draw mixed [0,1,3,4] R [[],[],[],[]] (fun φ w hgd=>?_)
        replace hF:=W.ve hF
        refine AtH.take [0,1,2,3] hgd 0 R R R R (D':=#[Y,N,N,N,N,N,N,N,N,N,N,N,N,N,N]) (by kernel_rfl) (fun _ _ _ _ h=>h) R (vq (K:=kborder_line) (ja R) fa_82_0 sub_border_line_0) ?_
        refine AtH.take [0,1,2,3] hgd 1 R R R R (D':=#[Y,Y,N,N,N,N,N,N,N,N,N,N,N,N,N]) (by kernel_rfl) (fun _ _ _ _ h=>h) R (does_slice_ptr (ja R) Tryz.underlying50 ty_9.size (arrl_cons (arrl_one _ _)) R R) ?_
        refine AtH.take [0,1,2,3] hgd 2 R R R R (D':=#[Y,Y,Y,N,N,N,N,N,N,N,N,N,N,N,N]) (by kernel_rfl) (fun _ _ _ _ h=>h) R (je (ja R) fa_82_0) ?_
        refine AtH.take [0,1,2,3] hgd 3 R R R R (D':=#[Y,Y,Y,Y,N,N,N,N,N,N,N,N,N,N,N]) (by kernel_rfl) (fun _ _ _ _ h=>h) R (does_aidx_box (ja R) (ji _ _) ia_50_0) ?_
        refine AtH.take [0,1,2,3] hgd 4 R R R R (D':=#[Y,Y,Y,Y,Y,N,N,N,N,N,N,N,N,N,N]) (by kernel_rfl) (fun _ _ _ _ h=>h) R (jc (ja R) 1 R sub_border_line_0_0 ty_9) ?_
        refine AtH.all1 5 (by kernel_rfl) ?_
        refine AtH.f [(0,0),(1,1),(2,3),(3,4)] R R R R R R (jm R R jo (jp R en_36 (jf (ja R) (jf (ja R) jg))) (vv.ok hF) (by rintro _ _ ⟨r,_,rfl,_⟩;exact vd)) (D':=#[Y,Y,Y,Y,Y,Y,N,N,N,N,N,N,N,N,N]) (by kernel_rfl) (by kernel_rfl) ?_
        rintro _ _ ⟨_,_,⟨r51,hF,rfl,rfl⟩,rfl,rfl⟩
        refine ⟨_,.inr ⟨R,vd⟩,?_⟩
        replace hF:=W.ve hF
        refine AtH.take [0,1,2,3] hgd 6 R R R R (D':=#[Y,Y,Y,Y,Y,Y,Y,N,N,N,N,N,N,N,N]) (by kernel_rfl) (fun _ _ _ _ h=>h) R (jb (x:=(.tv kBool r51)) (ja R)) ?_
        refine AtH.takeG [0,1,2,3] hgd 7 R R R (jt R) R R (D':=#[Y,Y,Y,Y,Y,Y,Y,Y,N,N,N,N,N,N,N]) (by kernel_rfl) (fun _ _ _ _ h=>h) R (fun hg70=>(vq (K:=kborder_line) (ja R) fa_82_0 sub_border_line_0)) ?_
        refine AtH.takeG [0,1,2,3] hgd 8 R R R (jt R) R R (D':=#[Y,Y,Y,Y,Y,Y,Y,Y,Y,N,N,N,N,N,N]) (by kernel_rfl) (fun _ _ _ _ h=>h) R (fun hg71=>(does_slice_ptr (jh R hg71) Tryz.underlying50 ty_9.size (arrl_cons (arrl_one _ _)) R R)) ?_
        refine AtH.takeG [0,1,2,3] hgd 9 R R R (jt R) R R (D':=#[Y,Y,Y,Y,Y,Y,Y,Y,Y,Y,N,N,N,N,N]) (by kernel_rfl) (fun _ _ _ _ h=>h) R (fun hg72=>(je (ja R) fa_82_0)) ?_
        refine AtH.takeG [0,1,2,3] hgd 10 R R R (jt R) R R (D':=#[Y,Y,Y,Y,Y,Y,Y,Y,Y,Y,Y,N,N,N,N]) (by kernel_rfl) (fun _ _ _ _ h=>h) R (fun hg73=>(does_aidx_box (jh R hg73) (ji _ _) ia_50_1)) ?_
        refine AtH.takeG [0,1,2,3] hgd 11 R R R (jt R) R R (D':=#[Y,Y,Y,Y,Y,Y,Y,Y,Y,Y,Y,Y,N,N,N]) (by kernel_rfl) (fun _ _ _ _ h=>h) R (fun hg74=>(jc (jh R hg74) 1 R sub_border_line_0_1 ty_9)) ?_
        refine AtH.all1 12 (by kernel_rfl) ?_
        refine AtH.effG [(0,0),(1,1),(2,3),(3,4)] R R R R R R R (jt R) (D':=#[Y,Y,Y,Y,Y,Y,Y,Y,Y,Y,Y,Y,Y,N,N]) (by kernel_rfl) (by kernel_rfl) hF (fun r=>.tv kBool r) (fun _=>vd) (fun hg75 hF=>eff_of (jm R R jo (jp R en_36 (jf (jh R hg75) (jf (jh R hg75) jg))) (vv.ok hF) (by rintro _ _ ⟨r,_,rfl,_⟩;exact vd)) (by rintro _ _ ⟨_,_,⟨r,hF,rfl,rfl⟩,rfl,rfl⟩;exact ⟨r,hF,R,R⟩)) (fun r52 hF=>?_)
        refine AtH.take [0,1,2,3] hgd 13 R R R R (D':=#[Y,Y,Y,Y,Y,Y,Y,Y,Y,Y,Y,Y,Y,Y,N]) (by kernel_rfl) (fun _ _ _ _ h=>h) R (jl (ja R) (jk _) (ja R) pick_or) ?_
        refine AtH.take [0,1,2,3] hgd 14 R R R R (D':=#[Y,Y,Y,Y,Y,Y,Y,Y,Y,Y,Y,Y,Y,Y,Y]) (by kernel_rfl) (fun _ _ _ _ h=>h) R (jd (x:=(.tv kBool (r51||r52))) (ja R)) ?_
        refine AtH.done (by kernel_rfl) ?_
        refine At.jy (At.seq (At.seq (At.region (At.d R R R R (je (ja R) fa_82_0) ?_))))
        refine At.d R R R R (jc (ja R) 1 R sub_border_line_0 ty_50) ?_
        refine At.d R R R R (vq (K:=kborder_line) (ja R) fa_82_0 sub_border_line_0) ?_
        refine At.d R R R R (vi (K:=(kPair kStr kStr)) (ja R) ty_50) ?_
        refine At.d R R R R (jj (ja R) (ja R) (bin_eq eqty_50)) ?_
        refine At.d R R R R (jb (x:=(.tv kBool (eq_a50 x130.nodes x131.nodes))) (ja R)) ?_
        refine At.vc R R R R (jt R) R (fun hg76=>(jb (x:=(.tv (kInt .i64) e22.2)) (ja R))) ?_
        refine At.vc R R R R (jt R) R (fun hg77=>(jj (jh R hg77) (ji _ _) bin_eql)) ?_
        refine At.vc R R R R (jt R) R (fun hg78=>(jb (x:=(.tv kBool (e22.2==(1:Int)))) (jh R hg78))) ?_
        refine At.vc R R R R (sees_wt R) R (fun hg79=>(jb (x:=(.tv kBool (r51||r52))) (ja R))) ?_
        refine At.vc R R R R (jt R) R (fun hg80=>(jl (jh R hg80) (ja R) (jk _) (pick_andG (and_of hg80)))) ?_
        refine At.d R R R R (jl (ja R) (jk _) (ja R) pick_or) ?_
        refine At.done (At.jy ?_)
        refine At.cond (ja R) (fun hb60=>?_) (fun hb60=>?_)
        ·replace hF:=W.ite_t hb60 hF
         refine At.exit ?_
         refine At.x ?_
         refine At.h ?_
         refine At.jy ?_
         refine At.w [0,3,4] R [(5,(.tv (kSlice kborder_line) r2)),(6,(.eq (.pointer (some ⟨g4,0,none⟩)))),(7,(.cls 34 0 (tupl [(.eq (.pointer (some ⟨g4,0,none⟩)))]))),(103,(.eq (.pointer (some ⟨g39,0,none⟩))))] ⟨R,R,R,R,trivial⟩ (At.r ⟨l10,b22,e22,x129,hF,R,R⟩)
        ·replace hF:=W.ite_f hb60 hF
         refine At.skip (At.jy (At.seq (At.region (At.d R R R R (je (ja R) fa_82_1) ?_))))
         refine At.d R R R R (jc (ja R) 1 R sub_border_line_1 ty_41) ?_
         refine At.d R R R R (jr (ja R) Tryz.underlying41) ?_
         refine At.d R R R R (jb (x:=(.tv (kInt .i64) (0:Int))) (ji _ _)) ?_
         refine At.done (At.jy (At.block ?_))
         obtain ⟨n3,hF⟩:=hF
         refine At.w [0,3,4] R [(5,(.tv (kSlice kborder_line) r2)),(6,(.eq (.pointer (some ⟨g4,0,none⟩)))),(7,(.cls 34 0 (tupl [(.eq (.pointer (some ⟨g4,0,none⟩)))]))),(22,(.ptr kborder_line x131)),(103,(.eq (.pointer (some ⟨g39,0,none⟩)))),(146,(.tv (kSlice kStr) x130.owners)),(147,(.tv (kInt .i64) (x130.owners.length:Int))),(148,(.tv (kInt .i64) (0:Int)))] ⟨R,R,R,R,R,R,R,R,trivial⟩ ?_
         refine At.loop (fun m rs L=>∃ (x142:(List ((BA×BA)×Bool))) (t69:Int),W.iter2 (border_Check.l3 (W.iter2 (border_Check.l2 r2 (border_Check.c3)) m3) l10 x130 x131) m x142 t69 Q∧rs=[.box g4 47 kRaw (.map (some g3)),.iter g39 (kPair (kInt .i64) (kInt .i64)) (kInt .i64) l10 b22 e22,.map g3 (kPair kStr kStr) kBool x142]∧L=mkL [(5,(.tv (kSlice kborder_line) r2)),(6,(.eq (.pointer (some ⟨g4,0,none⟩)))),(7,(.cls 34 0 (tupl [(.eq (.pointer (some ⟨g4,0,none⟩)))]))),(22,(.ptr kborder_line x131)),(103,(.eq (.pointer (some ⟨g39,0,none⟩)))),(146,(.tv (kSlice kStr) x130.owners)),(147,(.tv (kInt .i64) (x130.owners.length:Int))),(148,(.tv (kInt .i64) t69))]) ?_ ?_ (m:=n3) ⟨x129,(0:Int),hF,R,R⟩
         ·rintro rs L ⟨_,_,hF,_,_⟩;exact hF
         ·rintro m4 _ _ ⟨x142,t69,hF,rfl,rfl⟩
          replace hF:=W.iter2_s hF
          unfold border_Check.l3 at hF
          refine At.seq (At.region (At.d R R R R (jj (ja R) (ja R) jw) ?_))
          refine At.done (At.jy (At.seq ?_))
          refine At.cond (ja R) (fun hb67=>?_) (fun hb67=>?_)
          ·replace hF:=W.ite_t hb67 hF
           refine At.skip (At.jy ?_)
           refine At.cut (fun rs L=>∃ (x146:(List ((BA×BA)×Bool))),border_Check.c6 t69 (W.iter2 (border_Check.l3 (W.iter2 (border_Check.l2 r2 (border_Check.c3)) m3) l10 x130 x131) m4) x146 Q∧rs=[.box g4 47 kRaw (.map (some g3)),.iter g39 (kPair (kInt .i64) (kInt .i64)) (kInt .i64) l10 b22 e22,.map g3 (kPair kStr kStr) kBool x146]∧L=mkL [(5,(.tv (kSlice kborder_line) r2)),(6,(.eq (.pointer (some ⟨g4,0,none⟩)))),(7,(.cls 34 0 (tupl [(.eq (.pointer (some ⟨g4,0,none⟩)))]))),(22,(.ptr kborder_line x131)),(103,(.eq (.pointer (some ⟨g39,0,none⟩)))),(146,(.tv (kSlice kStr) x130.owners)),(147,(.tv (kInt .i64) (x130.owners.length:Int))),(148,(.tv (kInt .i64) t69))]) ?_ ?_
           ·refine At.block (At.seq (At.region ?_))
            obtain ⟨hq89,hF⟩:=hF
            refine At.d R R R R (jx (⟨#[]⟩:BA) (ja R) (ja R) Tryz.underlying41 ty_9 hq89) ?_
            refine At.d R R R R (vi (K:=kStr) (ja R) ty_9) ?_
            refine At.d R R R R (jd (x:=(.tv kStr (rd (⟨#[]⟩:BA) x130.owners t69))) (ja R)) ?_
            refine At.done (At.jy (At.seq (At.region (At.d R R R R (vq (K:=kborder_line) (ja R) fa_82_1 sub_border_line_1) ?_))))
            refine At.d R R R R (vi (K:=(kSlice kStr)) (ja R) ty_41) ?_
            refine At.d R R R R (jr (ja R) Tryz.underlying41) ?_
            refine At.d R R R R (jb (x:=(.tv (kInt .i64) (0:Int))) (ji _ _)) ?_
            refine At.done (At.jy (At.block ?_))
            obtain ⟨n2,hF⟩:=hF
            refine At.w [0,1,2] R [(5,(.tv (kSlice kborder_line) r2)),(6,(.eq (.pointer (some ⟨g4,0,none⟩)))),(7,(.cls 34 0 (tupl [(.eq (.pointer (some ⟨g4,0,none⟩)))]))),(22,(.ptr kborder_line x131)),(25,(.tv kStr (rd (⟨#[]⟩:BA) x130.owners t69))),(103,(.eq (.pointer (some ⟨g39,0,none⟩)))),(146,(.tv (kSlice kStr) x130.owners)),(147,(.tv (kInt .i64) (x130.owners.length:Int))),(148,(.tv (kInt .i64) t69)),(153,(.tv (kSlice kStr) x131.owners)),(154,(.tv (kInt .i64) (x131.owners.length:Int))),(155,(.tv (kInt .i64) (0:Int)))] ⟨R,R,R,R,R,R,R,R,R,R,R,R,trivial⟩ ?_
            refine At.loop (fun m rs L=>∃ (x149:(List ((BA×BA)×Bool))) (t75:Int),W.iter2 (border_Check.l4 x130 x131 t69 (border_Check.c6 t69 (W.iter2 (border_Check.l3 (W.iter2 (border_Check.l2 r2 (border_Check.c3)) m3) l10 x130 x131) m4))) m x149 t75 Q∧rs=[.box g4 47 kRaw (.map (some g3)),.iter g39 (kPair (kInt .i64) (kInt .i64)) (kInt .i64) l10 b22 e22,.map g3 (kPair kStr kStr) kBool x149]∧L=mkL [(5,(.tv (kSlice kborder_line) r2)),(6,(.eq (.pointer (some ⟨g4,0,none⟩)))),(7,(.cls 34 0 (tupl [(.eq (.pointer (some ⟨g4,0,none⟩)))]))),(22,(.ptr kborder_line x131)),(25,(.tv kStr (rd (⟨#[]⟩:BA) x130.owners t69))),(103,(.eq (.pointer (some ⟨g39,0,none⟩)))),(146,(.tv (kSlice kStr) x130.owners)),(147,(.tv (kInt .i64) (x130.owners.length:Int))),(148,(.tv (kInt .i64) t69)),(153,(.tv (kSlice kStr) x131.owners)),(154,(.tv (kInt .i64) (x131.owners.length:Int))),(155,(.tv (kInt .i64) t75))]) ?_ ?_ (m:=n2) ⟨x142,(0:Int),hF,R,R⟩
            ·rintro rs L ⟨_,_,hF,_,_⟩;exact hF
            ·rintro m5 _ _ ⟨x149,t75,hF,rfl,rfl⟩
             replace hF:=W.iter2_s hF
             unfold border_Check.l4 at hF
             refine At.seq (At.region (At.d R R R R (jj (ja R) (ja R) jw) ?_))
             refine At.done (At.jy (At.seq ?_))
             refine At.cond (ja R) (fun hb72=>?_) (fun hb72=>?_)
             ·replace hF:=W.ite_t hb72 hF
              refine At.skip (At.jy (At.seq (At.block (At.seq (At.region ?_)))))
              obtain ⟨hq92,hF⟩:=hF
              refine At.d R R R R (jx (⟨#[]⟩:BA) (ja R) (ja R) Tryz.underlying41 ty_9 hq92) ?_
              refine At.d R R R R (vi (K:=kStr) (ja R) ty_9) ?_
              refine At.d R R R R (jd (x:=(.tv kStr (rd (⟨#[]⟩:BA) x131.owners t75))) (ja R)) ?_
              refine At.done (At.jy (At.region (At.d R R R R (jb (x:=(.cls 34 0 (tupl [(.eq (.pointer (some ⟨g4,0,none⟩)))]))) (ja R)) ?_)))
              refine At.d R R R R (jb (x:=(.tv kStr (rd (⟨#[]⟩:BA) x130.owners t69))) (ja R)) ?_
              refine At.d R R R R (jb (x:=(.tv kStr (rd (⟨#[]⟩:BA) x131.owners t75))) (ja R)) ?_
              replace hF:=W.ve hF
              refine At.f R (jn R R (ent_val0 R (ja R) en_34 (jf (ja R) (jf (ja R) jg))) [0,2] R (border_Check_1__b.ok hF)) ?_
              rintro _ _ ⟨_,_,⟨r61,hF,rfl,rfl⟩,rfl,rfl⟩
              refine At.done ?_
              refine At.n ?_
              refine At.jy (At.region (At.d R R R R (jj (ja R) (ji _ _) jv) ?_))
              refine At.d R R R R (jb (x:=(.tv (kInt .i64) (w64 (t75+(1:Int))))) (ja R)) ?_
              refine At.done (At.jy ?_)
              refine At.w [0,3,1] R [(5,(.tv (kSlice kborder_line) r2)),(6,(.eq (.pointer (some ⟨g4,0,none⟩)))),(7,(.cls 34 0 (tupl [(.eq (.pointer (some ⟨g4,0,none⟩)))]))),(22,(.ptr kborder_line x131)),(25,(.tv kStr (rd (⟨#[]⟩:BA) x130.owners t69))),(103,(.eq (.pointer (some ⟨g39,0,none⟩)))),(146,(.tv (kSlice kStr) x130.owners)),(147,(.tv (kInt .i64) (x130.owners.length:Int))),(148,(.tv (kInt .i64) t69)),(153,(.tv (kSlice kStr) x131.owners)),(154,(.tv (kInt .i64) (x131.owners.length:Int))),(155,(.tv (kInt .i64) (w64 (t75+(1:Int)))))] ⟨R,R,R,R,R,R,R,R,R,R,R,R,trivial⟩ (At.r ⟨r61,(w64 (t75+(1:Int))),hF,R,R⟩)
             ·replace hF:=W.ite_f hb72 hF
              refine At.exit ?_
              refine At.x (At.x ?_)
              refine At.h ?_
              refine At.n ?_
              refine At.jy ?_
              refine At.w [0,1,2] R [(5,(.tv (kSlice kborder_line) r2)),(6,(.eq (.pointer (some ⟨g4,0,none⟩)))),(7,(.cls 34 0 (tupl [(.eq (.pointer (some ⟨g4,0,none⟩)))]))),(22,(.ptr kborder_line x131)),(103,(.eq (.pointer (some ⟨g39,0,none⟩)))),(146,(.tv (kSlice kStr) x130.owners)),(147,(.tv (kInt .i64) (x130.owners.length:Int))),(148,(.tv (kInt .i64) t69))] ⟨R,R,R,R,R,R,R,R,trivial⟩ (At.r ⟨x149,hF,R,R⟩)
           ·rintro _ _ ⟨x146,hF,rfl,rfl⟩
            unfold border_Check.c6 at hF
            refine At.region (At.d R R R R (jj (ja R) (ji _ _) jv) ?_)
            refine At.d R R R R (jb (x:=(.tv (kInt .i64) (w64 (t69+(1:Int))))) (ja R)) ?_
            refine At.done (At.jy ?_)
            refine At.w [0,1,2] R [(5,(.tv (kSlice kborder_line) r2)),(6,(.eq (.pointer (some ⟨g4,0,none⟩)))),(7,(.cls 34 0 (tupl [(.eq (.pointer (some ⟨g4,0,none⟩)))]))),(22,(.ptr kborder_line x131)),(103,(.eq (.pointer (some ⟨g39,0,none⟩)))),(146,(.tv (kSlice kStr) x130.owners)),(147,(.tv (kInt .i64) (x130.owners.length:Int))),(148,(.tv (kInt .i64) (w64 (t69+(1:Int)))))] ⟨R,R,R,R,R,R,R,R,trivial⟩ (At.r ⟨x146,(w64 (t69+(1:Int))),hF,R,R⟩)
          ·replace hF:=W.ite_f hb67 hF
           refine At.exit ?_
           refine At.x (At.x ?_)
           refine At.h ?_
           refine At.n ?_
           refine At.jy ?_
           refine At.w [0,1,2] R [(5,(.tv (kSlice kborder_line) r2)),(6,(.eq (.pointer (some ⟨g4,0,none⟩)))),(7,(.cls 34 0 (tupl [(.eq (.pointer (some ⟨g4,0,none⟩)))]))),(103,(.eq (.pointer (some ⟨g39,0,none⟩))))] ⟨R,R,R,R,trivial⟩ (At.r ⟨l10,b22,e22,x142,hF,R,R⟩)
      ·replace hF:=W.ite_f hb59 hF
       refine At.exit ?_
       refine At.x (At.x ?_)
       refine At.h ?_
       refine At.jy ?_
       refine At.w [0,2] R [(6,(.eq (.pointer (some ⟨g4,0,none⟩))))] ⟨R,trivial⟩ (At.r ⟨x129,hF,R,R⟩)
    ·rintro _ _ ⟨x84,hF,rfl,rfl⟩
     unfold border_Check.c3 at hF
     refine At.seq (At.region (At.d R R R R (jd (x:=(.eq (.slice none 0 0))) (opd_eq _)) ?_))
     refine At.done (At.jy ?_)
     refine At.cut (fun rs L=>∃ (x91:(List Violation)) (v40:Value),border_Check.c4 x91 Q∧rs=[.row v40 43 kViolation x91]∧L=mkL [(28,(.eq v40))]) ?_ ?_
     ·refine At.seq (At.region (At.d R R R R (does_load_raw (ja R) 0 R (Sub.self kRaw) tyr_47 R) ?_))
      refine At.mapfreeze 1 [165] R ⟨R,trivial⟩ ?_
      refine At.boxtold 0 (K':=(kMp (kPair kStr kStr) kBool)) (y:=x84) R (Turn.fmap (j:=1) R) ?_
      refine At.f R (eff_range R R R (ja R) Tryz.underlying47 (((⟨#[]⟩:BA),(⟨#[]⟩:BA)),false)) ?_
      rintro _ _ ⟨g35,rfl,rfl⟩
      refine At.done (At.jy (At.block ?_))
      refine At.nilrow 43 kViolation ?_
      obtain ⟨n1,hF⟩:=hF
      refine At.w [0,1] R [(28,(.eq (.slice none 0 0))),(166,(.eq (.pointer (some ⟨g35,0,none⟩))))] ⟨R,R,trivial⟩ ?_
      refine At.loop (fun m rs L=>∃ (x96:(List Violation)) (v49:Value) (x97:(List ((BA×BA)×Bool))) (b15:Bool) (e15:((BA×BA)×Bool)),W.iter2 (border_Check.l1 (border_Check.c4)) m x96 x97 Q∧rs=[.row v49 43 kViolation x96,.iter g35 (kPair kStr kStr) kBool x97 b15 e15]∧L=mkL [(28,(.eq v49)),(166,(.eq (.pointer (some ⟨g35,0,none⟩))))]) ?_ ?_ (m:=n1) ⟨([]:List Violation),(.slice none 0 0),x84,false,(((⟨#[]⟩:BA),(⟨#[]⟩:BA)),false),hF,R,R⟩
      ·rintro rs L ⟨_,_,_,_,_,hF,_,_⟩;exact hF
      ·rintro m2 _ _ ⟨x96,v49,x97,b15,e15,hF,rfl,rfl⟩
       replace hF:=W.iter2_s hF
       unfold border_Check.l1 at hF
       refine At.seq (At.region (At.f R (eff_next R R R (ja R) 1 R hF) ?_))
       rintro _ _ ⟨b16,e16,l7,hF,rfl,rfl⟩
       refine At.d R R R R (does_extract_tcons (ja R)) ?_
       refine At.done (At.jy (At.seq ?_))
       refine At.cond (ja R) (fun hb42=>?_) (fun hb42=>?_)
       ·replace hF:=W.ite_t hb42 hF
        refine At.skip (At.jy (At.block (At.seq (At.region ?_))))
        obtain ⟨hq57,hF⟩:=hF
        refine At.d R R R R (does_entry (ja R) 1 R hq57) ?_
        refine At.d R R R R (does_extract20 (ja R)) ?_
        refine At.f R (eff_alloc R R R tz_50) ?_
        rintro _ _ ⟨g38,rfl,rfl⟩
        refine At.f R (ju R R (ja R) 0 R (Sub.self (kPair kStr kStr)) ty_50 (ja R)) ?_
        rintro _ _ ⟨rfl,rfl⟩
        refine At.done (At.jy ?_)
        refine At.boxrow 0 R (arrl_cons (arrl_one _ _)) R R ?_
        refine At.region (At.d R R R R (jb (x:=(.eq v49)) (ja R)) ?_)
        refine At.d R R R R (does_slice_arr (ja R) Tryz.underlying50 ty_9.size) ?_
        replace hF:=W.ve hF
        refine At.f R (jn R R (jp R en_38 (jf (ja R) jg)) [0] R (vf.ok hF)) ?_
        rintro _ _ ⟨_,_,⟨r38,v50,hF,rfl,rfl⟩,rfl,rfl⟩
        refine At.freeze 0 173 R R ?_
        refine At.d R R R R (does_build (jq (ji _ _) (jq (ja R) parts_nil)) zr_43 bd_43 R (fills_cons R sub_Violation_1 (fills_cons R sub_Violation_2 fills_nil))) ?_
        refine At.f R (eff_lit R R R (os:=[.tmp 174]) R sl_33 (xs:=([(⟨(⟨#[]⟩:BA),(2:Int),r38⟩:Violation)]:List Violation)) (jf (ja R) jg) R R) ?_
        rintro _ _ ⟨v51,rfl,rfl⟩
        obtain ⟨hq58,hF⟩:=hF
        refine At.f R (eff_append_row R R R 3 0 R R (ja R) (ja R) sl_33 hq58) ?_
        rintro _ _ ⟨v52,rfl,rfl⟩
        refine At.d R R R R (jd (x:=(.eq v52)) (ja R)) ?_
        refine At.done ?_
        refine At.n ?_
        refine At.jy ?_
        refine At.w [3,4] R [(28,(.eq v52)),(166,(.eq (.pointer (some ⟨g35,0,none⟩))))] ⟨R,R,trivial⟩ (At.r ⟨(x96++([(⟨(⟨#[]⟩:BA),(2:Int),r38⟩:Violation)]:List Violation)),v52,l7,b16,e16,hF,R,R⟩)
       ·replace hF:=W.ite_f hb42 hF
        refine At.exit ?_
        refine At.x (At.x ?_)
        refine At.h ?_
        refine At.jy ?_
        refine At.w [0] R [(28,(.eq v49))] ⟨R,trivial⟩ (At.r ⟨x96,v49,hF,R,R⟩)
     ·rintro _ _ ⟨x91,v40,hF,rfl,rfl⟩
      unfold border_Check.c4 at hF
      refine At.seq (At.region (At.d R R R R (jb (x:=(.eq v40)) (ja R)) ?_))
      replace hF:=W.ve hF
      refine At.f R (jn R R (jp R en_39 (jf (ja R) (jf (opd_fn 40) jg))) [0] R (slices_SortFunc_api_Violation_api_Violation__o_border_Check_2.ok hF)) ?_
      rintro _ _ ⟨_,_,⟨r35,hF,rfl,rfl⟩,rfl,rfl⟩
      refine At.done (At.jy (At.seq (At.region (At.d R R R R (jb (x:=(.eq v40)) (ja R)) ?_))))
      refine At.d R R R R (jd (x:=(.eq v40)) (ja R)) ?_
      refine At.done (At.jy (At.ret ?_))
      exact At.j rfl (rv_tmp rfl) [0] rfl ⟨r35,_,hF,rfl,rfl⟩
def border_Segments.c1 (r1:(border_parcel×Bool)) (r2:(List border_line)) (x4:(List (List BA))):W ((List Segment)×(List (List BA))):=W.bind (vr.F r1.1 r2) (fun r3=>W.ret (r3,x4))
def border_Segments.l1 (r2:(List border_line)) (K1:(List (List BA))→W ((List Segment)×(List (List BA)))) (A1:(List (List BA))→Int→W ((List Segment)×(List (List BA)))) (x7:(List (List BA))) (t6:Int):W ((List Segment)×(List (List BA))):=W.ite (decide (t6<(r2.length:Int))) (W.req (0≤t6∧t6<(r2.length:Int)) (W.req (0≤t6∧t6<(r2.length:Int)) (W.req ((x7.length+([(rd zborder_line r2 t6).owners]:List (List BA)).length)*24≤140737488355328∧x7.length+([(rd zborder_line r2 t6).owners]:List (List BA)).length≤140737488355328) (A1 (x7++([(rd zborder_line r2 t6).owners]:List (List BA))) (w64 (t6+(1:Int))))))) (K1 x7)
def border_Segments.F (m1:Map):W ((List Segment)×(List (List BA))):=W.bind (border_of.F m1) (fun r1=>W.ite (!r1.2) (W.ret (([]:List Segment),([]:List (List BA)))) (W.bind (vn.F r1.1) (fun r2=>W.ex fun n=>W.iter2 (border_Segments.l1 r2 (border_Segments.c1 r1 r2)) n ([]:List (List BA)) (0:Int))))
theorem border_Segments.ok {m1:Map} {Q:((List Segment)×(List (List BA)))→Prop} (hF:border_Segments.F m1 Q):Con Tryz.prog 12 [.tv kMap m1] [] (fun ta rs'=>∃ (r:((List Segment)×(List (List BA)))) (u0:Value) (u1:Value),Q r∧ta=.tup2 (.eq u0) (.eq u1)∧rs'=[.row u0 39 kSegment r.1,.row u1 41 (kSlice kStr) r.2]):=by
 refine Con.i Tryz.func12 Tryz.ntmps12 R R (fun C=>?_)
 unfold border_Segments.F at hF
 refine At.seq (At.region (At.f R (eff_box R R R (ja R)) ?_))
 rintro _ _ ⟨g1,rfl,rfl⟩
 refine At.d R R R R (jd (x:=(.eq (.slice none 0 0))) (opd_eq _)) ?_
 refine At.d R R R R (jd (x:=(.eq (.slice none 0 0))) (opd_eq _)) ?_
 refine At.done (At.jy (At.seq (At.region (At.d R R R R (jc (ja R) 0 R (Sub.self kMap) ty_24) ?_))))
 replace hF:=W.ve hF
 refine At.f R (jn R R (jp R en_30 (jf (ja R) jg)) [] R (border_of.ok hF)) ?_
 rintro _ _ ⟨_,_,⟨r1,hF,rfl,rfl⟩,rfl,rfl⟩
 refine At.d R R R R (jb (x:=(.tup2 (.tv kborder_parcel r1.1) (.tv kBool r1.2))) (ja R)) ?_
 refine At.d R R R R (does_extract20 (ja R)) ?_
 refine At.d R R R R (does_extract21 (ja R)) ?_
 refine At.f R (eff_alloc R R R tz_76) ?_
 rintro _ _ ⟨g2,rfl,rfl⟩
 refine At.f R (ju R R (ja R) 0 R (Sub.self kborder_parcel) ty_76 (ja R)) ?_
 rintro _ _ ⟨rfl,rfl⟩
 refine At.d R R R R (jd (x:=(.tv kBool r1.2)) (ja R)) ?_
 refine At.done (At.jy (At.seq (At.seq (At.region (At.d R R R R (jb (x:=(.tv kBool r1.2)) (ja R)) ?_)))))
 refine At.d R R R R (does_not (ja R)) ?_
 refine At.done (At.jy ?_)
 refine At.cond (ja R) (fun hb1=>?_) (fun hb1=>?_)
 ·replace hF:=W.ite_t hb1 hF
  refine At.seq (At.region (At.d R R R R (jd (x:=(.eq (.slice none 0 0))) (opd_eq _)) ?_))
  refine At.d R R R R (jd (x:=(.eq (.slice none 0 0))) (opd_eq _)) ?_
  refine At.done (At.jy (At.ret (At.jz ?_)))
  refine At.nilrow 39 kSegment ?_
  refine At.nilrow 41 (kSlice kStr) ?_
  exact At.ret_2 rfl (rv_tmp rfl) (rv_tmp rfl) [1,0] rfl ⟨(([]:List Segment),([]:List (List BA))),_,_,hF,rfl,rfl⟩
 ·replace hF:=W.ite_f hb1 hF
  refine At.skip (At.jy (At.seq (At.region (At.d R R R R (jc (ja R) 0 R (Sub.self kborder_parcel) ty_76) ?_))))
  replace hF:=W.ve hF
  refine At.f R (jn R R (jp R en_31 (jf (ja R) jg)) [] R (vn.ok hF)) ?_
  rintro _ _ ⟨_,_,⟨r2,v1,hF,rfl,rfl⟩,rfl,rfl⟩
  refine At.d R R R R (jd (x:=(.eq v1)) (ja R)) ?_
  refine At.done (At.jy (At.seq (At.region (At.d R R R R (jd (x:=(.eq (.slice none 0 0))) (opd_eq _)) ?_))))
  refine At.done (At.jy ?_)
  refine At.cut (fun rs L=>∃ (x4:(List (List BA))) (v9:Value),border_Segments.c1 r1 r2 x4 Q∧rs=[.box g2 76 kborder_parcel r1.1,.row v1 82 kborder_line r2,.row v9 41 (kSlice kStr) x4]∧L=mkL [(4,(.eq (.pointer (some ⟨g2,0,none⟩)))),(6,(.eq v1)),(7,(.eq v9))]) ?_ ?_
  ·refine At.seq (At.region (At.d R R R R (jb (x:=(.eq v1)) (ja R)) ?_))
   refine At.d R R R R (does_len_row (ja R) 0 R Tryz.underlying79) ?_
   refine At.d R R R R (jb (x:=(.tv (kInt .i64) (0:Int))) (ji _ _)) ?_
   refine At.done (At.jy (At.block ?_))
   refine At.nilrow 41 (kSlice kStr) ?_
   obtain ⟨n1,hF⟩:=hF
   refine At.w [2,1,0] R [(4,(.eq (.pointer (some ⟨g2,0,none⟩)))),(6,(.eq v1)),(7,(.eq (.slice none 0 0))),(19,(.eq v1)),(20,(.tv (kInt .i64) (r2.length:Int))),(21,(.tv (kInt .i64) (0:Int)))] ⟨R,R,R,R,R,R,trivial⟩ ?_
   refine At.loop (fun m rs L=>∃ (x7:(List (List BA))) (v17:Value) (t6:Int),W.iter2 (border_Segments.l1 r2 (border_Segments.c1 r1 r2)) m x7 t6 Q∧rs=[.box g2 76 kborder_parcel r1.1,.row v1 82 kborder_line r2,.row v17 41 (kSlice kStr) x7]∧L=mkL [(4,(.eq (.pointer (some ⟨g2,0,none⟩)))),(6,(.eq v1)),(7,(.eq v17)),(19,(.eq v1)),(20,(.tv (kInt .i64) (r2.length:Int))),(21,(.tv (kInt .i64) t6))]) ?_ ?_ (m:=n1) ⟨([]:List (List BA)),(.slice none 0 0),(0:Int),hF,R,R⟩
   ·rintro rs L ⟨_,_,_,hF,_,_⟩;exact hF
   ·rintro m2 _ _ ⟨x7,v17,t6,hF,rfl,rfl⟩
    replace hF:=W.iter2_s hF
    unfold border_Segments.l1 at hF
    refine At.seq (At.region (At.d R R R R (jj (ja R) (ja R) jw) ?_))
    refine At.done (At.jy (At.seq ?_))
    refine At.cond (ja R) (fun hb6=>?_) (fun hb6=>?_)
    ·replace hF:=W.ite_t hb6 hF
     refine At.skip (At.jy (At.seq (At.block (At.seq (At.region ?_)))))
     obtain ⟨hq13,hF⟩:=hF
     refine At.d R R R R (does_idx_row (ja R) 1 R (ja R) Tryz.underlying79 ty_82 hq13) ?_
     obtain ⟨hq14,hF⟩:=hF
     refine At.d R R R R (does_load_elem (ja R) 1 R t6 0 R zborder_line hq14 (Sub.self kborder_line) ty_82) ?_
     refine At.f R (eff_alloc R R R tz_82) ?_
     rintro _ _ ⟨g7,rfl,rfl⟩
     refine At.f R (ju R R (ja R) 0 R (Sub.self kborder_line) ty_82 (ja R)) ?_
     rintro _ _ ⟨rfl,rfl⟩
     refine At.done (At.jy (At.region (At.d R R R R (jb (x:=(.eq v17)) (ja R)) ?_)))
     refine At.d R R R R (je (ja R) fa_82_1) ?_
     refine At.d R R R R (jc (ja R) 0 R sub_border_line_1 ty_41) ?_
     refine At.f R (eff_lit R R R (os:=[.tmp 27]) R sl_28 (xs:=([(rd zborder_line r2 t6).owners]:List (List BA))) (jf (ja R) jg) R R) ?_
     rintro _ _ ⟨v18,rfl,rfl⟩
     obtain ⟨hq15,hF⟩:=hF
     refine At.f R (eff_append_row R R R 4 0 R R (ja R) (ja R) sl_28 hq15) ?_
     rintro _ _ ⟨v19,rfl,rfl⟩
     refine At.d R R R R (jd (x:=(.eq v19)) (ja R)) ?_
     refine At.done ?_
     refine At.n ?_
     refine At.jy (At.region (At.d R R R R (jj (ja R) (ji _ _) jv) ?_))
     refine At.d R R R R (jb (x:=(.tv (kInt .i64) (w64 (t6+(1:Int))))) (ja R)) ?_
     refine At.done (At.jy ?_)
     refine At.w [2,3,4] R [(4,(.eq (.pointer (some ⟨g2,0,none⟩)))),(6,(.eq v1)),(7,(.eq v19)),(19,(.eq v1)),(20,(.tv (kInt .i64) (r2.length:Int))),(21,(.tv (kInt .i64) (w64 (t6+(1:Int)))))] ⟨R,R,R,R,R,R,trivial⟩ (At.r ⟨(x7++([(rd zborder_line r2 t6).owners]:List (List BA))),v19,(w64 (t6+(1:Int))),hF,R,R⟩)
    ·replace hF:=W.ite_f hb6 hF
     refine At.exit ?_
     refine At.x (At.x ?_)
     refine At.h ?_
     refine At.jy ?_
     refine At.w [0,1,2] R [(4,(.eq (.pointer (some ⟨g2,0,none⟩)))),(6,(.eq v1)),(7,(.eq v17))] ⟨R,R,R,trivial⟩ (At.r ⟨x7,v17,hF,R,R⟩)
  ·rintro _ _ ⟨x4,v9,hF,rfl,rfl⟩
   unfold border_Segments.c1 at hF
   refine At.seq (At.region (At.d R R R R (jc (ja R) 0 R (Sub.self kborder_parcel) ty_76) ?_))
   refine At.d R R R R (jb (x:=(.eq v1)) (ja R)) ?_
   refine At.freeze2 1 6 32 R R R ?_
   replace hF:=W.ve hF
   refine At.f R (jn R R (jp R en_32 (jf (ja R) (jf (ja R) jg))) [] R (vr.ok hF)) ?_
   rintro _ _ ⟨_,_,⟨r3,v10,hF,rfl,rfl⟩,rfl,rfl⟩
   refine At.d R R R R (jb (x:=(.eq v9)) (ja R)) ?_
   refine At.d R R R R (jd (x:=(.eq v10)) (ja R)) ?_
   refine At.d R R R R (jd (x:=(.eq v9)) (ja R)) ?_
   refine At.done (At.jy (At.ret ?_))
   exact At.ret_2 rfl (rv_tmp rfl) (rv_tmp rfl) [0,3] rfl ⟨(r3,x4),_,_,hF,rfl,rfl⟩
def border_Free_1__p.c1 (t3:Bool):W Bool:=W.ite t3 (W.ret true) (W.ret false)
def border_Free_1__p.F (t1:Segment) (t2:Segment):W Bool:=W.bind (geom_Meets.F t1 t2) (fun r1=>W.ite (r1==(2:Int)) ((border_Free_1__p.c1) (r1==(2:Int))) (W.ite (r1==(3:Int)) ((border_Free_1__p.c1) (r1==(3:Int))) ((border_Free_1__p.c1) (r1==(5:Int)))))
theorem border_Free_1__p.ok {t1:Segment} {t2:Segment} {Q:Bool→Prop} (hF:border_Free_1__p.F t1 t2 Q):Con Tryz.prog 46 [.tv kSegment t1,.ptr kSegment t2] [] (fun ta rs'=>∃ (r:Bool),Q r∧ta=.tv kBool r∧rs'=[]):=by
 refine Con.i Tryz.func46 Tryz.ntmps46 R R (fun C=>?_)
 unfold border_Free_1__p.F at hF
 refine At.seq (At.region (At.f R (eff_box R R R (ja R)) ?_))
 rintro _ _ ⟨g1,rfl,rfl⟩
 refine At.d R R R R (jd (x:=(.tv kBool false)) (jk _)) ?_
 refine At.done (At.jy (At.seq (At.seq (At.region (At.d R R R R (jc (ja R) 0 R (Sub.self kSegment) ty_39) ?_)))))
 refine At.d R R R R (vi (K:=kSegment) (ja R) ty_39) ?_
 replace hF:=W.ve hF
 refine At.f R (jm R R jo (jp R en_23 (jf (ja R) (jf (ja R) jg))) (geom_Meets.ok hF) (by rintro _ _ ⟨r,_,rfl,_⟩;exact flat_int)) ?_
 rintro _ _ ⟨_,_,⟨r1,hF,rfl,rfl⟩,rfl,rfl⟩
 refine At.done (At.jy (At.block ?_))
 refine At.cut (fun rs L=>∃ (t3:Bool),border_Free_1__p.c1 t3 Q∧rs=[]∧L=mkL [(7,(.tv kBool t3))]) ?_ ?_
 ·refine At.seq (At.region (At.d R R R R (jj (ja R) (ji _ _) bin_eql) ?_))
  refine At.d R R R R (jd (x:=(.tv kBool (r1==(2:Int)))) (ja R)) ?_
  refine At.done (At.jy ?_)
  refine At.cond (ja R) (fun hb4=>?_) (fun hb4=>?_)
  ·replace hF:=W.ite_t hb4 hF
   refine At.skip (At.jy ?_)
   refine At.w [] R [(7,(.tv kBool (r1==(2:Int))))] ⟨R,trivial⟩ (At.r ⟨(r1==(2:Int)),hF,R,R⟩)
  ·replace hF:=W.ite_f hb4 hF
   refine At.seq (At.region (At.d R R R R (jj (ja R) (ji _ _) bin_eql) ?_))
   refine At.d R R R R (jd (x:=(.tv kBool (r1==(3:Int)))) (ja R)) ?_
   refine At.done (At.jy ?_)
   refine At.cond (ja R) (fun hb5=>?_) (fun hb5=>?_)
   ·replace hF:=W.ite_t hb5 hF
    refine At.skip (At.jy ?_)
    refine At.w [] R [(7,(.tv kBool (r1==(3:Int))))] ⟨R,trivial⟩ (At.r ⟨(r1==(3:Int)),hF,R,R⟩)
   ·replace hF:=W.ite_f hb5 hF
    refine At.region (At.d R R R R (jj (ja R) (ji _ _) bin_eql) ?_)
    refine At.d R R R R (jd (x:=(.tv kBool (r1==(5:Int)))) (ja R)) ?_
    refine At.done (At.jy ?_)
    refine At.w [] R [(7,(.tv kBool (r1==(5:Int))))] ⟨R,trivial⟩ (At.r ⟨(r1==(5:Int)),hF,R,R⟩)
 ·rintro _ _ ⟨t3,hF,rfl,rfl⟩
  unfold border_Free_1__p.c1 at hF
  refine At.cond (ja R) (fun hb3=>?_) (fun hb3=>?_)
  ·replace hF:=W.ite_t hb3 hF
   refine At.seq (At.region (At.d R R R R (jd (x:=(.tv kBool true)) (jk _)) ?_))
   refine At.done (At.jy (At.ret ?_))
   refine At.q ?_
   refine At.jz ?_
   exact At.j rfl (rv_tmp rfl) [] rfl ⟨true,hF,rfl,rfl⟩
  ·replace hF:=W.ite_f hb3 hF
   refine At.skip ?_
   refine At.n ?_
   refine At.jy (At.seq (At.region (At.d R R R R (jd (x:=(.tv kBool false)) (jk _)) ?_)))
   refine At.done (At.jy (At.ret ?_))
   exact At.j rfl (rv_tmp rfl) [] rfl ⟨false,hF,rfl,rfl⟩
def vj.c1:W Int:=W.ret (-1:Int)
def vj.l1 (s1:(List Segment)) (c1:Segment) (K1:W Int) (A1:Int→W Int) (t6:Int):W Int:=W.ite (decide (t6<(s1.length:Int))) (W.req (0≤t6∧t6<(s1.length:Int)) (W.bind (border_Free_1__p.F (rd zSegment s1 t6) c1) (fun r5=>W.ite r5 (W.ret t6) (A1 (w64 (t6+(1:Int))))))) (K1)
def vj.F (s1:(List Segment)) (c1:Segment):W Int:=W.ex fun n=>W.iter1 (vj.l1 s1 c1 (vj.c1)) n (0:Int)
theorem vj.ok {s1:(List Segment)} {c1:Segment} {Q:Int→Prop} (hF:vj.F s1 c1 Q):Con Tryz.prog 74 [.tv (kSlice kSegment) s1,.cls 46 0 (tupl [.ptr kSegment c1])] [] (fun ta rs'=>∃ (r:Int),Q r∧ta=.tv (kInt .i64) r∧rs'=[]):=by
 refine Con.i Tryz.func74 Tryz.ntmps74 R R (fun C=>?_)
 unfold vj.F at hF
 refine At.seq (At.region (At.d R R R R (jd (x:=(.tv (kInt .i64) (0:Int))) (ji _ _)) ?_))
 refine At.done (At.jy ?_)
 refine At.cut (fun rs L=>∃ _:Unit,vj.c1 Q∧rs=[]∧L=mkL []) ?_ ?_
 ·refine At.seq (At.region (At.d R R R R (jb (x:=(.tv (kSlice kSegment) s1)) (ja R)) ?_))
  refine At.d R R R R (jr (ja R) Tryz.underlying27) ?_
  refine At.d R R R R (jb (x:=(.tv (kInt .i64) (0:Int))) (ji _ _)) ?_
  refine At.done (At.jy (At.block ?_))
  obtain ⟨n1,hF⟩:=hF
  refine At.w [] R [(0,(.tv (kSlice kSegment) s1)),(1,(.cls 46 0 (tupl [(.ptr kSegment c1)]))),(7,(.tv (kInt .i64) (s1.length:Int))),(8,(.tv (kInt .i64) (0:Int)))] ⟨R,R,R,R,trivial⟩ ?_
  refine At.loop (fun m rs L=>∃ (t6:Int),W.iter1 (vj.l1 s1 c1 (vj.c1)) m t6 Q∧rs=[]∧L=mkL [(0,(.tv (kSlice kSegment) s1)),(1,(.cls 46 0 (tupl [(.ptr kSegment c1)]))),(7,(.tv (kInt .i64) (s1.length:Int))),(8,(.tv (kInt .i64) t6))]) ?_ ?_ (m:=n1) ⟨(0:Int),hF,R,R⟩
  ·rintro rs L ⟨_,hF,_,_⟩;exact hF
  ·rintro m1 _ _ ⟨t6,hF,rfl,rfl⟩
   replace hF:=W.iter1_s hF
   unfold vj.l1 at hF
   refine At.seq (At.region (At.d R R R R (jj (ja R) (ja R) jw) ?_))
   refine At.done (At.jy (At.seq ?_))
   refine At.cond (ja R) (fun hb9=>?_) (fun hb9=>?_)
   ·replace hF:=W.ite_t hb9 hF
    refine At.skip (At.jy (At.seq (At.block (At.seq (At.region (At.d R R R R (jb (x:=(.tv (kInt .i64) t6)) (ja R)) ?_))))))
    refine At.d R R R R (jd (x:=(.tv (kInt .i64) t6)) (ja R)) ?_
    refine At.done (At.jy (At.seq (At.region (At.d R R R R (jb (x:=(.cls 46 0 (tupl [(.ptr kSegment c1)]))) (ja R)) ?_))))
    refine At.d R R R R (jb (x:=(.tv (kSlice kSegment) s1)) (ja R)) ?_
    refine At.d R R R R (jb (x:=(.tv (kInt .i64) t6)) (ja R)) ?_
    obtain ⟨hq5,hF⟩:=hF
    refine At.d R R R R (jx zSegment (ja R) (ja R) Tryz.underlying27 ty_39 hq5) ?_
    refine At.d R R R R (vi (K:=kSegment) (ja R) ty_39) ?_
    replace hF:=W.ve hF
    refine At.f R (jm R R jo (ent_val0 R (ja R) en_46 (jf (ja R) jg)) (border_Free_1__p.ok hF) (by rintro _ _ ⟨r,_,rfl,_⟩;exact vd)) ?_
    rintro _ _ ⟨_,_,⟨r5,hF,rfl,rfl⟩,rfl,rfl⟩
    refine At.done (At.jy ?_)
    refine At.cond (ja R) (fun hb10=>?_) (fun hb10=>?_)
    ·replace hF:=W.ite_t hb10 hF
     refine At.seq (At.region (At.d R R R R (jb (x:=(.tv (kInt .i64) t6)) (ja R)) ?_))
     refine At.d R R R R (jd (x:=(.tv (kInt .i64) t6)) (ja R)) ?_
     refine At.done (At.jy (At.ret ?_))
     refine At.q ?_
     refine At.jz (At.jz ?_)
     refine At.q ?_
     refine At.jz ?_
     exact At.j rfl (rv_tmp rfl) [] rfl ⟨t6,hF,rfl,rfl⟩
    ·replace hF:=W.ite_f hb10 hF
     refine At.skip ?_
     refine At.n ?_
     refine At.jy (At.region (At.d R R R R (jj (ja R) (ji _ _) jv) ?_))
     refine At.d R R R R (jb (x:=(.tv (kInt .i64) (w64 (t6+(1:Int))))) (ja R)) ?_
     refine At.done (At.jy ?_)
     refine At.w [] R [(0,(.tv (kSlice kSegment) s1)),(1,(.cls 46 0 (tupl [(.ptr kSegment c1)]))),(7,(.tv (kInt .i64) (s1.length:Int))),(8,(.tv (kInt .i64) (w64 (t6+(1:Int)))))] ⟨R,R,R,R,trivial⟩ (At.r ⟨(w64 (t6+(1:Int))),hF,R,R⟩)
   ·replace hF:=W.ite_f hb9 hF
    refine At.exit ?_
    refine At.x (At.x ?_)
    refine At.h ?_
    refine At.jy ?_
    refine At.w [] R [] trivial (At.r ⟨(),hF,R,R⟩)
 ·rintro _ _ ⟨_,hF,rfl,rfl⟩
  unfold vj.c1 at hF
  refine At.seq (At.region (At.d R R R R (jd (x:=(.tv (kInt .i64) (-1:Int))) (ji _ _)) ?_))
  refine At.done (At.jy (At.ret ?_))
  exact At.j rfl (rv_tmp rfl) [] rfl ⟨(-1:Int),hF,rfl,rfl⟩
def vz.F (s1:(List Segment)) (c1:Segment):W Bool:=W.bind (vj.F s1 c1) (fun r1=>W.ret (decide ((0:Int)≤r1)))
theorem vz.ok {s1:(List Segment)} {c1:Segment} {Q:Bool→Prop} (hF:vz.F s1 c1 Q):Con Tryz.prog 45 [.tv (kSlice kSegment) s1,.cls 46 0 (tupl [.ptr kSegment c1])] [] (fun ta rs'=>∃ (r:Bool),Q r∧ta=.tv kBool r∧rs'=[]):=by
 refine Con.i Tryz.func45 Tryz.ntmps45 R R (fun C=>?_)
 unfold vz.F at hF
 refine At.seq (At.region (At.d R R R R (jd (x:=(.tv kBool false)) (jk _)) ?_))
 refine At.done (At.jy (At.seq (At.region (At.d R R R R (jb (x:=(.tv (kSlice kSegment) s1)) (ja R)) ?_))))
 refine At.d R R R R (jb (x:=(.cls 46 0 (tupl [(.ptr kSegment c1)]))) (ja R)) ?_
 replace hF:=W.ve hF
 refine At.f R (jm R R jo (jp R en_74 (jf (ja R) (jf (ja R) jg))) (vj.ok hF) (by rintro _ _ ⟨r,_,rfl,_⟩;exact flat_int)) ?_
 rintro _ _ ⟨_,_,⟨r1,hF,rfl,rfl⟩,rfl,rfl⟩
 refine At.d R R R R (jj (ja R) (ji _ _) bin_geq) ?_
 refine At.d R R R R (jd (x:=(.tv kBool (decide ((0:Int)≤r1)))) (ja R)) ?_
 refine At.done (At.jy (At.ret ?_))
 exact At.j rfl (rv_tmp rfl) [] rfl ⟨(decide ((0:Int)≤r1)),hF,rfl,rfl⟩
def border_Free.F (m1:Map) (s1:Segment):W Bool:=W.bind (border_of.F m1) (fun r1=>W.ite (((!r1.2)||(decide ((iMin [s1.A.X,s1.A.Y,s1.B.X,s1.B.Y])<(-2097152:Int))))||(decide ((2097152:Int)<(iMax [s1.A.X,s1.A.Y,s1.B.X,s1.B.Y])))) (W.ret false) (W.bind (vn.F r1.1) (fun r2=>W.bind (vr.F r1.1 r2) (fun r3=>W.bind (vz.F r3 s1) (fun r4=>W.ret (!r4))))))
theorem border_Free.ok {m1:Map} {s1:Segment} {Q:Bool→Prop} (hF:border_Free.F m1 s1 Q):Con Tryz.prog 18 [.tv kMap m1,.tv kSegment s1] [] (fun ta rs'=>∃ (r:Bool),Q r∧ta=.tv kBool r∧rs'=[]):=by
 refine Con.i Tryz.func18 Tryz.ntmps18 R R (fun C=>?_)
 unfold border_Free.F at hF
 refine At.seq (At.region (At.f R (eff_box R R R (ja R)) ?_))
 rintro _ _ ⟨g1,rfl,rfl⟩
 refine At.f R (eff_box R R R (ja R)) ?_
 rintro _ _ ⟨g2,rfl,rfl⟩
 refine At.d R R R R (jd (x:=(.tv kBool false)) (jk _)) ?_
 refine At.done (At.jy (At.seq (At.region (At.d R R R R (jc (ja R) 1 R (Sub.self kMap) ty_24) ?_))))
 replace hF:=W.ve hF
 refine At.f R (jn R R (jp R en_30 (jf (ja R) jg)) [] R (border_of.ok hF)) ?_
 rintro _ _ ⟨_,_,⟨r1,hF,rfl,rfl⟩,rfl,rfl⟩
 refine At.d R R R R (jb (x:=(.tup2 (.tv kborder_parcel r1.1) (.tv kBool r1.2))) (ja R)) ?_
 refine At.d R R R R (does_extract20 (ja R)) ?_
 refine At.d R R R R (does_extract21 (ja R)) ?_
 refine At.f R (eff_alloc R R R tz_76) ?_
 rintro _ _ ⟨g3,rfl,rfl⟩
 refine At.f R (ju R R (ja R) 0 R (Sub.self kborder_parcel) ty_76 (ja R)) ?_
 rintro _ _ ⟨rfl,rfl⟩
 refine At.d R R R R (jd (x:=(.tv kBool r1.2)) (ja R)) ?_
 refine At.done (At.jy (At.seq (At.seq (At.region (At.d R R R R (jb (x:=(.tv kBool r1.2)) (ja R)) ?_)))))
 refine At.d R R R R (does_not (ja R)) ?_
 refine At.d R R R R (jb (x:=(.tv kBool (!r1.2))) (ja R)) ?_
 refine At.vc R R R R (jt R) R (fun hg1=>(je (ja R) fa_39_0)) ?_
 refine At.vc R R R R (jt R) R (fun hg2=>(je (jh R hg2) fa_37_0)) ?_
 refine At.vc R R R R (jt R) R (fun hg3=>(jc (jh R hg3) 1 R sub_Segment_0_0 ty_3)) ?_
 refine At.vc R R R R (jt R) R (fun hg4=>(je (ja R) fa_39_0)) ?_
 refine At.vc R R R R (jt R) R (fun hg5=>(je (jh R hg5) fa_37_1)) ?_
 refine At.vc R R R R (jt R) R (fun hg6=>(jc (jh R hg6) 1 R sub_Segment_0_1 ty_3)) ?_
 refine At.vc R R R R (jt R) R (fun hg7=>(je (ja R) fa_39_1)) ?_
 refine At.vc R R R R (jt R) R (fun hg8=>(je (jh R hg8) fa_37_0)) ?_
 refine At.vc R R R R (jt R) R (fun hg9=>(jc (jh R hg9) 1 R sub_Segment_1_0 ty_3)) ?_
 refine At.vc R R R R (jt R) R (fun hg10=>(je (ja R) fa_39_1)) ?_
 refine At.vc R R R R (jt R) R (fun hg11=>(je (jh R hg11) fa_37_1)) ?_
 refine At.vc R R R R (jt R) R (fun hg12=>(jc (jh R hg12) 1 R sub_Segment_1_1 ty_3)) ?_
 refine At.vc R R R R (jt R) R (fun hg13=>(does_mins (n:=s1.A.X) (ns:=[s1.A.Y,s1.B.X,s1.B.Y]) (jf (jh R hg13) (jf (jh R hg13) (jf (jh R hg13) (jf (jh R hg13) jg)))))) ?_
 refine At.vc R R R R (jt R) R (fun hg14=>(jj (jh R hg14) (ji _ _) jw)) ?_
 refine At.d R R R R (jl (ja R) (jk _) (ja R) pick_or) ?_
 refine At.d R R R R (jb (x:=(.tv kBool ((!r1.2)||(decide ((iMin [s1.A.X,s1.A.Y,s1.B.X,s1.B.Y])<(-2097152:Int)))))) (ja R)) ?_
 refine At.vc R R R R (jt R) R (fun hg15=>(je (ja R) fa_39_0)) ?_
 refine At.vc R R R R (jt R) R (fun hg16=>(je (jh R hg16) fa_37_0)) ?_
 refine At.vc R R R R (jt R) R (fun hg17=>(jc (jh R hg17) 1 R sub_Segment_0_0 ty_3)) ?_
 refine At.vc R R R R (jt R) R (fun hg18=>(je (ja R) fa_39_0)) ?_
 refine At.vc R R R R (jt R) R (fun hg19=>(je (jh R hg19) fa_37_1)) ?_
 refine At.vc R R R R (jt R) R (fun hg20=>(jc (jh R hg20) 1 R sub_Segment_0_1 ty_3)) ?_
 refine At.vc R R R R (jt R) R (fun hg21=>(je (ja R) fa_39_1)) ?_
 refine At.vc R R R R (jt R) R (fun hg22=>(je (jh R hg22) fa_37_0)) ?_
 refine At.vc R R R R (jt R) R (fun hg23=>(jc (jh R hg23) 1 R sub_Segment_1_0 ty_3)) ?_
 refine At.vc R R R R (jt R) R (fun hg24=>(je (ja R) fa_39_1)) ?_
 refine At.vc R R R R (jt R) R (fun hg25=>(je (jh R hg25) fa_37_1)) ?_
 refine At.vc R R R R (jt R) R (fun hg26=>(jc (jh R hg26) 1 R sub_Segment_1_1 ty_3)) ?_
 refine At.vc R R R R (jt R) R (fun hg27=>(does_maxs (n:=s1.A.X) (ns:=[s1.A.Y,s1.B.X,s1.B.Y]) (jf (jh R hg27) (jf (jh R hg27) (jf (jh R hg27) (jf (jh R hg27) jg)))))) ?_
 refine At.vc R R R R (jt R) R (fun hg28=>(jj (jh R hg28) (ji _ _) bin_gtr)) ?_
 refine At.d R R R R (jl (ja R) (jk _) (ja R) pick_or) ?_
 refine At.done (At.jy ?_)
 refine At.cond (ja R) (fun hb1=>?_) (fun hb1=>?_)
 ·replace hF:=W.ite_t hb1 hF
  refine At.seq (At.region (At.d R R R R (jd (x:=(.tv kBool false)) (jk _)) ?_))
  refine At.done (At.jy (At.ret (At.jz ?_)))
  exact At.j rfl (rv_tmp rfl) [] rfl ⟨false,hF,rfl,rfl⟩
 ·replace hF:=W.ite_f hb1 hF
  refine At.skip (At.jy (At.seq ?_))
  refine At.draw mixed [0,1,2] R [[],[],[]] (fun φ w hgd=>?_)
  replace hF:=W.ve hF
  refine AtH.take [0,1,2] hgd 0 R R R R (D':=#[Y,N,N,N,N,N,N,N]) (by kernel_rfl) (fun _ _ _ _ h=>h) R (jc (ja R) 0 R (Sub.self kborder_parcel) ty_76) ?_
  refine AtH.take [0,1,2] hgd 1 R R R R (D':=#[Y,Y,N,N,N,N,N,N]) (by kernel_rfl) (fun _ _ _ _ h=>h) R (jc (ja R) 0 R (Sub.self kborder_parcel) ty_76) ?_
  refine AtH.take [0,1,2] hgd 4 R R R R (D':=#[Y,Y,N,N,Y,N,N,N]) (by kernel_rfl) (fun _ _ _ _ h=>h) R (does_cls (firsts:=[]) (caps:=[.tmp 3]) R (jf (ja R) jg)) ?_
  refine AtH.all1 2 (by kernel_rfl) ?_
  refine AtH.f [(0,0),(1,1),(2,2)] R R R R R R (jn R R (jp R en_31 (jf (ja R) jg)) [] R (vn.ok hF)) (D':=#[Y,Y,Y,N,Y,N,N,N]) (by kernel_rfl) (by kernel_rfl) ?_
  rintro _ _ ⟨_,_,⟨r2,v3,hF,rfl,rfl⟩,rfl,rfl⟩
  refine ⟨.any,.inl R,?_⟩
  replace hF:=W.ve hF
  refine AtH.all1 3 (by kernel_rfl) ?_
  refine AtH.freeze 0 48 R R ?_
  refine AtH.f [(0,1),(1,2),(2,3)] R R R R R R (jn R R (jp R en_32 (jf (ja R) (jf (ja R) jg))) [] R (vr.ok hF)) (D':=#[Y,Y,Y,Y,Y,N,N,N]) (by kernel_rfl) (by kernel_rfl) ?_
  rintro _ _ ⟨_,_,⟨r3,v4,hF,rfl,rfl⟩,rfl,rfl⟩
  refine ⟨.any,.inl R,?_⟩
  replace hF:=W.ve hF
  refine AtH.all1 5 (by kernel_rfl) ?_
  refine AtH.f [(0,2),(1,3),(2,4)] R R R R R R (jm R R (lends_row 0 49 R R (lends_box 3 50 R R (lend1_cls (lend1_here lend1_ptr)) jo)) (jp R en_45 (jf (ja R) (jf (ja R) jg))) (vz.ok hF) (by rintro _ _ ⟨r,_,rfl,_⟩;exact vd)) (D':=#[Y,Y,Y,Y,Y,Y,N,N]) (by kernel_rfl) (by kernel_rfl) ?_
  rintro _ _ ⟨_,_,⟨r4,hF,rfl,rfl⟩,rfl,rfl⟩
  refine ⟨_,.inr ⟨R,vd⟩,?_⟩
  refine AtH.take [0,1,2] hgd 6 R R R R (D':=#[Y,Y,Y,Y,Y,Y,Y,N]) (by kernel_rfl) (fun _ _ _ _ h=>h) R (does_not (ja R)) ?_
  refine AtH.take [0,1,2] hgd 7 R R R R (D':=#[Y,Y,Y,Y,Y,Y,Y,Y]) (by kernel_rfl) (fun _ _ _ _ h=>h) R (jd (x:=(.tv kBool (!r4))) (ja R)) ?_
  refine AtH.done (by kernel_rfl) ?_
  refine At.jy (At.ret ?_)
  exact At.j rfl (rv_tmp rfl) [] rfl ⟨(!r4),hF,rfl,rfl⟩
def law13_node.F (id1:BA) (x1:Int) (y1:Int):W Object:=W.ret (⟨id1,(1:Int),(⟨x1,y1⟩:Point),([]:List BA),([]:List Tag)⟩:Object)
theorem law13_node.ok {id1:BA} {x1:Int} {y1:Int} {Q:Object→Prop} (hF:law13_node.F id1 x1 y1 Q):Con Tryz.prog 64 [.tv kStr id1,.tv (kInt .i64) x1,.tv (kInt .i64) y1] [] (fun ta rs'=>∃ (r:Object),Q r∧ta=.tv kObject r∧rs'=[]):=by
 refine Con.i Tryz.func64 Tryz.ntmps64 R R (fun C=>?_)
 unfold law13_node.F at hF
 refine At.seq (At.region (At.f R (eff_alloc R R R tz_59) ?_))
 rintro _ _ ⟨g1,rfl,rfl⟩
 refine At.done (At.jy (At.seq (At.region (At.d R R R R (jb (x:=(.tv kStr id1)) (ja R)) ?_))))
 refine At.d R R R R (jb (x:=(.tv (kInt .i64) x1)) (ja R)) ?_
 refine At.d R R R R (jb (x:=(.tv (kInt .i64) y1)) (ja R)) ?_
 refine At.d R R R R (does_build (jq (ja R) (jq (ja R) parts_nil)) zr_37 bd_37 R (fills_cons R sub_Point_0 (fills_cons R sub_Point_1 fills_nil))) ?_
 refine At.d R R R R (does_build (jq (ja R) (jq (ji _ _) (jq (ja R) parts_nil))) zr_59 bd_59 R (fills_cons R sub_Object_0 (fills_cons R sub_Object_1 (fills_cons R sub_Object_2 fills_nil)))) ?_
 refine At.f R (ju R R (ja R) 0 R (Sub.self kObject) ty_59 (ja R)) ?_
 rintro _ _ ⟨rfl,rfl⟩
 refine At.done (At.jy (At.ret ?_))
 exact At.j rfl (rv_cell rfl 0 rfl ty_59) [] rfl ⟨(⟨id1,(1:Int),(⟨x1,y1⟩:Point),([]:List BA),([]:List Tag)⟩:Object),hF,rfl,rfl⟩
def law13_square.F (ways1:(List Object)):W Map:=W.bind (law13_node.F (⟨#[97]⟩:BA) (0:Int) (0:Int)) (fun r1=>W.bind (law13_node.F (⟨#[98]⟩:BA) (4:Int) (4:Int)) (fun r2=>W.bind (law13_node.F (⟨#[99]⟩:BA) (0:Int) (4:Int)) (fun r3=>W.bind (law13_node.F (⟨#[100]⟩:BA) (4:Int) (0:Int)) (fun r4=>W.req ((([r1,r2,r3,r4]:List Object).length+ways1.length)*88≤140737488355328∧([r1,r2,r3,r4]:List Object).length+ways1.length≤140737488355328) (W.ret (⟨(([r1,r2,r3,r4]:List Object)++ways1)⟩:Map))))))
theorem law13_square.ok {ways1:(List Object)} {Q:Map→Prop} (hF:law13_square.F ways1 Q):Con Tryz.prog 28 [.tv (kSlice kObject) ways1] [] (fun ta rs'=>∃ (r:Map),Q r∧ta=.tv kMap r∧rs'=[]):=by
 refine Con.i Tryz.func28 Tryz.ntmps28 R R (fun C=>?_)
 unfold law13_square.F at hF
 refine At.seq (At.region (At.f R (eff_alloc R R R tz_24) ?_))
 rintro _ _ ⟨g1,rfl,rfl⟩
 refine At.done (At.jy (At.seq (At.region ?_)))
 replace hF:=W.ve hF
 refine At.f R (jn R R (jp R en_64 (jf (opd_str _) (jf (ji _ _) (jf (ji _ _) jg)))) [] R (law13_node.ok hF)) ?_
 rintro _ _ ⟨_,_,⟨r1,hF,rfl,rfl⟩,rfl,rfl⟩
 replace hF:=W.ve hF
 refine At.f R (jn R R (jp R en_64 (jf (opd_str _) (jf (ji _ _) (jf (ji _ _) jg)))) [] R (law13_node.ok hF)) ?_
 rintro _ _ ⟨_,_,⟨r2,hF,rfl,rfl⟩,rfl,rfl⟩
 replace hF:=W.ve hF
 refine At.f R (jn R R (jp R en_64 (jf (opd_str _) (jf (ji _ _) (jf (ji _ _) jg)))) [] R (law13_node.ok hF)) ?_
 rintro _ _ ⟨_,_,⟨r3,hF,rfl,rfl⟩,rfl,rfl⟩
 replace hF:=W.ve hF
 refine At.f R (jn R R (jp R en_64 (jf (opd_str _) (jf (ji _ _) (jf (ji _ _) jg)))) [] R (law13_node.ok hF)) ?_
 rintro _ _ ⟨_,_,⟨r4,hF,rfl,rfl⟩,rfl,rfl⟩
 refine At.f R (eff_lit R R R (os:=[.tmp 4,.tmp 5,.tmp 6,.tmp 7]) R sl_22 (xs:=([r1,r2,r3,r4]:List Object)) (jf (ja R) (jf (ja R) (jf (ja R) (jf (ja R) jg)))) R R) ?_
 rintro _ _ ⟨v1,rfl,rfl⟩
 refine At.d R R R R (jd (x:=(.eq v1)) (ja R)) ?_
 refine At.done (At.jy (At.seq (At.region (At.d R R R R (jb (x:=(.eq v1)) (ja R)) ?_))))
 refine At.d R R R R (jb (x:=(.tv (kSlice kObject) ways1)) (ja R)) ?_
 obtain ⟨hq1,hF⟩:=hF
 refine At.f R (eff_append_view R R R 0 R (ja R) (ja R) sl_22 hq1) ?_
 rintro _ _ ⟨v2,rfl,rfl⟩
 refine At.freeze 0 11 R R ?_
 refine At.d R R R R (does_build (jq (ja R) parts_nil) zr_24 bd_24 R (fills_cons R sub_Map_0 fills_nil)) ?_
 refine At.f R (ju R R (ja R) 1 R (Sub.self kMap) ty_24 (ja R)) ?_
 rintro _ _ ⟨rfl,rfl⟩
 refine At.done (At.jy (At.ret ?_))
 exact At.j rfl (rv_cell rfl 1 rfl ty_24) [] rfl ⟨(⟨(([r1,r2,r3,r4]:List Object)++ways1)⟩:Map),hF,rfl,rfl⟩
def law13_way.F (id1:BA) (refs1:(List BA)):W Object:=W.ret (⟨id1,(2:Int),zPoint,refs1,([]:List Tag)⟩:Object)
theorem law13_way.ok {id1:BA} {refs1:(List BA)} {Q:Object→Prop} (hF:law13_way.F id1 refs1 Q):Con Tryz.prog 27 [.tv kStr id1,.tv (kSlice kStr) refs1] [] (fun ta rs'=>∃ (r:Object),Q r∧ta=.tv kObject r∧rs'=[]):=by
 refine Con.i Tryz.func27 Tryz.ntmps27 R R (fun C=>?_)
 unfold law13_way.F at hF
 refine At.seq (At.region (At.f R (eff_alloc R R R tz_59) ?_))
 rintro _ _ ⟨g1,rfl,rfl⟩
 refine At.done (At.jy (At.seq (At.region (At.d R R R R (jb (x:=(.tv kStr id1)) (ja R)) ?_))))
 refine At.d R R R R (jb (x:=(.tv (kSlice kStr) refs1)) (ja R)) ?_
 refine At.d R R R R (does_build (jq (ja R) (jq (ji _ _) (jq (ja R) parts_nil))) zr_59 bd_59 R (fills_cons R sub_Object_0 (fills_cons R sub_Object_1 (fills_cons R sub_Object_3 fills_nil)))) ?_
 refine At.f R (ju R R (ja R) 0 R (Sub.self kObject) ty_59 (ja R)) ?_
 rintro _ _ ⟨rfl,rfl⟩
 refine At.done (At.jy (At.ret ?_))
 exact At.j rfl (rv_cell rfl 0 rfl ty_59) [] rfl ⟨(⟨id1,(2:Int),zPoint,refs1,([]:List Tag)⟩:Object),hF,rfl,rfl⟩
end Go.Gp.Gb
end
