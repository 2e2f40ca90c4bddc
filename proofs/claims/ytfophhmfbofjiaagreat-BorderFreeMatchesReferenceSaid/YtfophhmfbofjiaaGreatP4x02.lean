/- A part of the proof: see the last part. -/
import Derived.Test.YtfophhmfbofjiaaGreatP4x01
section
set_option linter.unusedVariables false
set_option linter.unusedSimpArgs false
set_option maxRecDepth 100000
namespace Go.Gp.Gb
open Go.Proofs
def border_parcel_point.F (p1 : border_parcel) (id1 : ByteArray) : W Point := W.req (0 ≤ (mget id1 (0 : Int) p1.at_) ∧ (mget id1 (0 : Int) p1.at_) < (p1.m.Objects.length : Int)) (W.ret ((rd zObject p1.m.Objects (mget id1 (0 : Int) p1.at_)).At))
theorem border_parcel_point.ok {p1 : border_parcel} {id1 : ByteArray} {Q : Point → Prop} (hF : border_parcel_point.F p1 id1 Q) : Con Tryz.prog 35 [.tv kborder_parcel p1, .tv kStr id1] [] (fun ta rs' => ∃ (r : Point), Q r ∧ ta = .tv kPoint r ∧ rs' = []) := by
 refine Con.intro' Tryz.func35 Tryz.ntmps35 R R (fun C => ?_)
 unfold border_parcel_point.F at hF
 refine At.seq (At.region (At.eff R (jw R R R (ja R)) ?_))
 rintro _ _ ⟨g1, rfl, rfl⟩
 refine At.eff R (eff_alloc R R R tz_37) ?_
 rintro _ _ ⟨g2, rfl, rfl⟩
 refine At.done (At.vg (At.seq (At.region (At.does R R R R (je (ja R) fa_76_0) ?_))))
 refine At.does R R R R (je (ja R) fa_24_0) ?_
 refine At.does R R R R (jc (ja R) 1 R sub_border_parcel_0_0 ty_22) ?_
 refine At.does R R R R (je (ja R) fa_76_1) ?_
 refine At.does R R R R (jc (ja R) 1 R sub_border_parcel_1 ty_74) ?_
 refine At.does R R R R (jb (x := (.tv kStr id1)) (ja R)) ?_
 refine At.does R R R R (does_lookF (ja R) mt_74 (ja R)) ?_
 obtain ⟨hq1, hF⟩ := hF
 refine At.does R R R R (ve zObject (ja R) (ja R) Tryz.underlying22 ty_59 hq1) ?_
 refine At.does R R R R (Jc (K := kObject) (ja R) fa_59_2 sub_Object_2) ?_
 refine At.does R R R R (vp (K := kPoint) (ja R) ty_37) ?_
 refine At.eff R (jx R R (ja R) 0 R (Sub.self kPoint) ty_37 (ja R)) ?_
 rintro _ _ ⟨rfl, rfl⟩
 refine At.done (At.vg (At.ret ?_))
 exact At.ret_1 rfl (rv_cell rfl 0 rfl ty_37) [] rfl ⟨(rd zObject p1.m.Objects (mget id1 (0 : Int) p1.at_)).At, hF, rfl, rfl⟩
def Jd.c1 (x4 : (List Segment)) : W (List Segment) := W.ret x4
def Jd.l1 (p1 : border_parcel) (l1 : (List border_line)) (K1 : (List Segment) → W (List Segment)) (A1 : (List Segment) → Int → W (List Segment)) (x7 : (List Segment)) (t6 : Int) : W (List Segment) := W.ite (decide (t6 < (l1.length : Int))) (W.req (0 ≤ t6 ∧ t6 < (l1.length : Int)) (W.bind (border_parcel_point.F p1 ((rd zborder_line l1 t6).nodes.1)) (fun r9 => W.bind (border_parcel_point.F p1 ((rd zborder_line l1 t6).nodes.2)) (fun r10 => W.req ((x7.length + ([(⟨r9, r10⟩ : Segment)] : List Segment).length) * 32 ≤ 140737488355328 ∧ x7.length + ([(⟨r9, r10⟩ : Segment)] : List Segment).length ≤ 140737488355328) (A1 (x7 ++ ([(⟨r9, r10⟩ : Segment)] : List Segment)) (w64 (t6 + (1 : Int)))))))) (K1 x7)
def Jd.F (p1 : border_parcel) (l1 : (List border_line)) : W (List Segment) := W.ex fun n => W.iter2 (Jd.l1 p1 l1 (Jd.c1)) n ([] : List Segment) (0 : Int)
theorem Jd.ok {p1 : border_parcel} {l1 : (List border_line)} {Q : (List Segment) → Prop} (hF : Jd.F p1 l1 Q) : Con Tryz.prog 32 [.tv kborder_parcel p1, .tv (kSlice kborder_line) l1] [] (fun ta rs' => ∃ (r : (List Segment)) (u0 : Value), Q r ∧ ta = .eq u0 ∧ rs' = [.row u0 39 kSegment r]) := by
 refine Con.intro' Tryz.func32 Tryz.ntmps32 R R (fun C => ?_)
 unfold Jd.F at hF
 refine At.seq (At.region (At.eff R (jw R R R (ja R)) ?_))
 rintro _ _ ⟨g1, rfl, rfl⟩
 refine At.does R R R R (jd (x := (.eq (.slice none 0 0))) (opd_eq _)) ?_
 refine At.done (At.vg (At.seq (At.region (At.does R R R R (jd (x := (.eq (.slice none 0 0))) (opd_eq _)) ?_))))
 refine At.done (At.vg ?_)
 refine At.cut (fun rs L => ∃ (x4 : (List Segment)) (v12 : Value), Jd.c1 x4 Q ∧ rs = [.row v12 39 kSegment x4] ∧ L = mkL [(5, (.eq v12))]) ?_ ?_
 ·refine At.seq (At.region (At.does R R R R (jb (x := (.tv (kSlice kborder_line) l1)) (ja R)) ?_))
  refine At.does R R R R (js (ja R) Tryz.underlying79) ?_
  refine At.does R R R R (jb (x := (.tv (kInt .i64) (0 : Int))) (ji _ _)) ?_
  refine At.done (At.vg (At.block ?_))
  refine At.nilrow 39 kSegment ?_
  obtain ⟨n1, hF⟩ := hF
  refine At.weaken [1, 0] R [(2, (.eq (.pointer (some ⟨g1, 0, none⟩)))), (5, (.eq (.slice none 0 0))), (8, (.tv (kSlice kborder_line) l1)), (9, (.tv (kInt .i64) (l1.length : Int))), (10, (.tv (kInt .i64) (0 : Int)))] ⟨R, R, R, R, R, trivial⟩ ?_
  refine At.loop (fun m rs L => ∃ (x7 : (List Segment)) (v23 : Value) (t6 : Int), W.iter2 (Jd.l1 p1 l1 (Jd.c1)) m x7 t6 Q ∧ rs = [.box g1 76 kborder_parcel p1, .row v23 39 kSegment x7] ∧ L = mkL [(2, (.eq (.pointer (some ⟨g1, 0, none⟩)))), (5, (.eq v23)), (8, (.tv (kSlice kborder_line) l1)), (9, (.tv (kInt .i64) (l1.length : Int))), (10, (.tv (kInt .i64) t6))]) ?_ ?_ (m := n1) ⟨([] : List Segment), (.slice none 0 0), (0 : Int), hF, R, R⟩
  ·rintro rs L ⟨_, _, _, hF, _, _⟩; exact hF
  ·rintro m1 _ _ ⟨x7, v23, t6, hF, rfl, rfl⟩
   replace hF := W.iter2_s hF
   unfold Jd.l1 at hF
   refine At.seq (At.region (At.does R R R R (jk (ja R) (ja R) vc) ?_))
   refine At.done (At.vg (At.seq ?_))
   refine At.cond (ja R) (fun hb5 => ?_) (fun hb5 => ?_)
   ·replace hF := W.ite_t hb5 hF
    refine At.skip (At.vg (At.seq (At.block (At.seq (At.region ?_)))))
    obtain ⟨hq9, hF⟩ := hF
    refine At.does R R R R (ve zborder_line (ja R) (ja R) Tryz.underlying79 ty_82 hq9) ?_
    refine At.does R R R R (vp (K := kborder_line) (ja R) ty_82) ?_
    refine At.eff R (eff_alloc R R R tz_82) ?_
    rintro _ _ ⟨g6, rfl, rfl⟩
    refine At.eff R (jx R R (ja R) 0 R (Sub.self kborder_line) ty_82 (ja R)) ?_
    rintro _ _ ⟨rfl, rfl⟩
    refine At.done (At.vg ?_)
    refine At.draw mixed [0, 1, 2] R [[], [], [13]] (fun φ w hgd => ?_)
    replace hF := W.vl hF
    refine AtH.take [0, 1, 2] hgd 0 R R R R (D' := #[Y,N,N,N,N,N,N,N,N,N,N,N,N,N,N]) (by kernel_rfl) (fun _ _ _ _ h => h) R (jb (x := (.eq v23)) (ja R)) ?_
    refine AtH.take [0, 1] hgd 1 R R R R (D' := #[Y,Y,N,N,N,N,N,N,N,N,N,N,N,N,N]) (by kernel_rfl) (fun _ _ _ _ h => h) R (jc (ja R) 1 R (Sub.self kborder_parcel) ty_76) ?_
    refine AtH.take [0, 1] hgd 2 R R R R (D' := #[Y,Y,Y,N,N,N,N,N,N,N,N,N,N,N,N]) (by kernel_rfl) (fun _ _ _ _ h => h) R (je (ja R) fa_82_0) ?_
    refine AtH.take [0, 1] hgd 3 R R R R (D' := #[Y,Y,Y,Y,N,N,N,N,N,N,N,N,N,N,N]) (by kernel_rfl) (fun _ _ _ _ h => h) R (does_aidx_box (ja R) (ji _ _) ia_50_0) ?_
    refine AtH.take [0, 1] hgd 4 R R R R (D' := #[Y,Y,Y,Y,Y,N,N,N,N,N,N,N,N,N,N]) (by kernel_rfl) (fun _ _ _ _ h => h) R (jc (ja R) 0 R sub_border_line_0_0 ty_9) ?_
    refine AtH.take [0, 1] hgd 6 R R R R (D' := #[Y,Y,Y,Y,Y,N,Y,N,N,N,N,N,N,N,N]) (by kernel_rfl) (fun _ _ _ _ h => h) R (jc (ja R) 1 R (Sub.self kborder_parcel) ty_76) ?_
    refine AtH.take [0, 1] hgd 7 R R R R (D' := #[Y,Y,Y,Y,Y,N,Y,Y,N,N,N,N,N,N,N]) (by kernel_rfl) (fun _ _ _ _ h => h) R (je (ja R) fa_82_0) ?_
    refine AtH.take [0, 1] hgd 8 R R R R (D' := #[Y,Y,Y,Y,Y,N,Y,Y,Y,N,N,N,N,N,N]) (by kernel_rfl) (fun _ _ _ _ h => h) R (does_aidx_box (ja R) (ji _ _) ia_50_1) ?_
    refine AtH.take [0, 1] hgd 9 R R R R (D' := #[Y,Y,Y,Y,Y,N,Y,Y,Y,Y,N,N,N,N,N]) (by kernel_rfl) (fun _ _ _ _ h => h) R (jc (ja R) 0 R sub_border_line_0_1 ty_9) ?_
    refine AtH.all1 5 (by kernel_rfl) ?_
    refine AtH.eff [(0, 0), (1, 1), (2, 2)] R R R R R R (jn R R jp (jq R en_35 (jf (ja R) (jf (ja R) jg))) (border_parcel_point.ok hF) (by rintro _ _ ⟨r, _, rfl, _⟩; exact (flat_tv flat_Point))) (D' := #[Y,Y,Y,Y,Y,Y,Y,Y,Y,Y,N,N,N,N,N]) (by kernel_rfl) (by kernel_rfl) ?_
    rintro _ _ ⟨_, _, ⟨r9, hF, rfl, rfl⟩, rfl, rfl⟩
    refine ⟨_, .inr ⟨R, (flat_tv flat_Point)⟩, ?_⟩
    replace hF := W.vl hF
    refine AtH.all1 10 (by kernel_rfl) ?_
    refine AtH.eff [(0, 0), (1, 1), (2, 2)] R R R R R R (jn R R jp (jq R en_35 (jf (ja R) (jf (ja R) jg))) (border_parcel_point.ok hF) (by rintro _ _ ⟨r, _, rfl, _⟩; exact (flat_tv flat_Point))) (D' := #[Y,Y,Y,Y,Y,Y,Y,Y,Y,Y,Y,N,N,N,N]) (by kernel_rfl) (by kernel_rfl) ?_
    rintro _ _ ⟨_, _, ⟨r10, hF, rfl, rfl⟩, rfl, rfl⟩
    refine ⟨_, .inr ⟨R, (flat_tv flat_Point)⟩, ?_⟩
    obtain ⟨hq10, hF⟩ := hF
    refine AtH.take [0, 1] hgd 11 R R R R (D' := #[Y,Y,Y,Y,Y,Y,Y,Y,Y,Y,Y,Y,N,N,N]) (by kernel_rfl) (fun _ _ _ _ h => h) R (jy (jr (ja R) (jr (ja R) parts_nil)) zr_39 bd_39 R (fills_cons R vz (fills_cons R Ja fills_nil))) ?_
    refine AtH.all1 12 (by kernel_rfl) ?_
    refine AtH.eff [(0, 0), (1, 1), (2, 2)] R R R R R R (eff_lit R R R (os := [.tmp 25]) R sl_27 (xs := ([(⟨r9, r10⟩ : Segment)] : List Segment)) (jf (ja R) jg) R R) (D' := #[Y,Y,Y,Y,Y,Y,Y,Y,Y,Y,Y,Y,Y,N,N]) (by kernel_rfl) (by kernel_rfl) ?_
    rintro _ _ ⟨v26, rfl, rfl⟩
    refine ⟨_, .inr ⟨R, flat_eq⟩, ?_⟩
    refine AtH.all1 13 (by kernel_rfl) ?_
    refine AtH.eff [(0, 1), (1, 2)] R R R R R R (eff_append_row R R R 3 0 R R (ja R) (ja R) sl_27 hq10) (D' := #[Y,Y,Y,Y,Y,Y,Y,Y,Y,Y,Y,Y,Y,Y,N]) (by kernel_rfl) (by kernel_rfl) ?_
    rintro _ _ ⟨v27, rfl, rfl⟩
    refine ⟨_, .inr ⟨R, flat_eq⟩, ?_⟩
    refine AtH.take [0, 1] hgd 14 R R R R (D' := #[Y,Y,Y,Y,Y,Y,Y,Y,Y,Y,Y,Y,Y,Y,Y]) (by kernel_rfl) (fun _ _ _ _ h => h) R (jd (x := (.eq v27)) (ja R)) ?_
    refine AtH.done (by kernel_rfl) ?_
    refine At.block_normal ?_
    refine At.vg (At.region (At.does R R R R (jk (ja R) (ji _ _) jz) ?_))
    refine At.does R R R R (jb (x := (.tv (kInt .i64) (w64 (t6 + (1 : Int))))) (ja R)) ?_
    refine At.done (At.vg ?_)
    refine At.weaken [2, 3] R [(2, (.eq (.pointer (some ⟨g1, 0, none⟩)))), (5, (.eq v27)), (8, (.tv (kSlice kborder_line) l1)), (9, (.tv (kInt .i64) (l1.length : Int))), (10, (.tv (kInt .i64) (w64 (t6 + (1 : Int)))))] ⟨R, R, R, R, R, trivial⟩ (At.reach ⟨(x7 ++ ([(⟨r9, r10⟩ : Segment)] : List Segment)), v27, (w64 (t6 + (1 : Int))), hF, R, R⟩)
   ·replace hF := W.ite_f hb5 hF
    refine At.exit ?_
    refine At.then_exit (At.then_exit ?_)
    refine At.block_here ?_
    refine At.vg ?_
    refine At.weaken [1] R [(5, (.eq v23))] ⟨R, trivial⟩ (At.reach ⟨x7, v23, hF, R, R⟩)
 ·rintro _ _ ⟨x4, v12, hF, rfl, rfl⟩
  unfold Jd.c1 at hF
  refine At.seq (At.region (At.does R R R R (jb (x := (.eq v12)) (ja R)) ?_))
  refine At.does R R R R (jd (x := (.eq v12)) (ja R)) ?_
  refine At.done (At.vg (At.ret ?_))
  exact At.ret_1 rfl (rv_tmp rfl) [0] rfl ⟨x4, _, hF, rfl, rfl⟩
def cmp_isNaN_int.F (x1 : Int) : W Bool := W.ret (x1 != x1)
theorem cmp_isNaN_int.ok {x1 : Int} {Q : Bool → Prop} (hF : cmp_isNaN_int.F x1 Q) : Con Tryz.prog 133 [.tv (kInt .i64) x1] [] (fun ta rs' => ∃ (r : Bool), Q r ∧ ta = .tv kBool r ∧ rs' = []) := by
 refine Con.intro' Tryz.func133 Tryz.ntmps133 R R (fun C => ?_)
 unfold cmp_isNaN_int.F at hF
 refine At.seq (At.region (At.does R R R R (jd (x := (.tv kBool false)) (jl _)) ?_))
 refine At.done (At.vg (At.seq (At.region (At.does R R R R (jb (x := (.tv (kInt .i64) x1)) (ja R)) ?_))))
 refine At.does R R R R (jb (x := (.tv (kInt .i64) x1)) (ja R)) ?_
 refine At.does R R R R (jk (ja R) (ja R) bin_neq) ?_
 refine At.does R R R R (jd (x := (.tv kBool (x1 != x1))) (ja R)) ?_
 refine At.done (At.vg (At.ret ?_))
 exact At.ret_1 rfl (rv_tmp rfl) [] rfl ⟨(x1 != x1), hF, rfl, rfl⟩
def cmp_Compare_int.F (x1 : Int) (y1 : Int) : W Int := W.bind (cmp_isNaN_int.F x1) (fun r1 => W.bind (cmp_isNaN_int.F y1) (fun r2 => W.ite r1 (W.ite r2 (W.ret (0 : Int)) (W.ret (-1 : Int))) (W.ite r2 (W.ret (1 : Int)) (W.ite (decide (x1 < y1)) (W.ret (-1 : Int)) (W.ite (decide (y1 < x1)) (W.ret (1 : Int)) (W.ret (0 : Int)))))))
theorem cmp_Compare_int.ok {x1 : Int} {y1 : Int} {Q : Int → Prop} (hF : cmp_Compare_int.F x1 y1 Q) : Con Tryz.prog 92 [.tv (kInt .i64) x1, .tv (kInt .i64) y1] [] (fun ta rs' => ∃ (r : Int), Q r ∧ ta = .tv (kInt .i64) r ∧ rs' = []) := by
 refine Con.intro' Tryz.func92 Tryz.ntmps92 R R (fun C => ?_)
 unfold cmp_Compare_int.F at hF
 refine At.seq (At.region (At.does R R R R (jd (x := (.tv (kInt .i64) (0 : Int))) (ji _ _)) ?_))
 refine At.done (At.vg (At.seq (At.region (At.does R R R R (jb (x := (.tv (kInt .i64) x1)) (ja R)) ?_))))
 replace hF := W.vl hF
 refine At.eff R (jn R R jp (jq R en_133 (jf (ja R) jg)) (cmp_isNaN_int.ok hF) (by rintro _ _ ⟨r, _, rfl, _⟩; exact vk)) ?_
 rintro _ _ ⟨_, _, ⟨r1, hF, rfl, rfl⟩, rfl, rfl⟩
 refine At.does R R R R (jd (x := (.tv kBool r1)) (ja R)) ?_
 refine At.done (At.vg (At.seq (At.region (At.does R R R R (jb (x := (.tv (kInt .i64) y1)) (ja R)) ?_))))
 replace hF := W.vl hF
 refine At.eff R (jn R R jp (jq R en_133 (jf (ja R) jg)) (cmp_isNaN_int.ok hF) (by rintro _ _ ⟨r, _, rfl, _⟩; exact vk)) ?_
 rintro _ _ ⟨_, _, ⟨r2, hF, rfl, rfl⟩, rfl, rfl⟩
 refine At.does R R R R (jd (x := (.tv kBool r2)) (ja R)) ?_
 refine At.done (At.vg (At.seq (At.seq (At.region (At.does R R R R (jb (x := (.tv kBool r1)) (ja R)) ?_)))))
 refine At.done (At.vg ?_)
 refine At.cond (ja R) (fun hb1 => ?_) (fun hb1 => ?_)
 ·replace hF := W.ite_t hb1 hF
  refine At.seq (At.seq (At.region (At.does R R R R (jb (x := (.tv kBool r2)) (ja R)) ?_)))
  refine At.done (At.vg ?_)
  refine At.cond (ja R) (fun hb2 => ?_) (fun hb2 => ?_)
  ·replace hF := W.ite_t hb2 hF
   refine At.seq (At.region (At.does R R R R (jd (x := (.tv (kInt .i64) (0 : Int))) (ji _ _)) ?_))
   refine At.done (At.vg (At.ret (At.vh (At.vh ?_))))
   exact At.ret_1 rfl (rv_tmp rfl) [] rfl ⟨(0 : Int), hF, rfl, rfl⟩
  ·replace hF := W.ite_f hb2 hF
   refine At.skip (At.vg (At.seq (At.region (At.does R R R R (jd (x := (.tv (kInt .i64) (-1 : Int))) (ji _ _)) ?_))))
   refine At.done (At.vg (At.ret (At.vh ?_)))
   exact At.ret_1 rfl (rv_tmp rfl) [] rfl ⟨(-1 : Int), hF, rfl, rfl⟩
 ·replace hF := W.ite_f hb1 hF
  refine At.skip (At.vg (At.seq (At.seq (At.region (At.does R R R R (jb (x := (.tv kBool r2)) (ja R)) ?_)))))
  refine At.done (At.vg ?_)
  refine At.cond (ja R) (fun hb3 => ?_) (fun hb3 => ?_)
  ·replace hF := W.ite_t hb3 hF
   refine At.seq (At.region (At.does R R R R (jd (x := (.tv (kInt .i64) (1 : Int))) (ji _ _)) ?_))
   refine At.done (At.vg (At.ret (At.vh ?_)))
   exact At.ret_1 rfl (rv_tmp rfl) [] rfl ⟨(1 : Int), hF, rfl, rfl⟩
  ·replace hF := W.ite_f hb3 hF
   refine At.skip (At.vg (At.seq (At.seq (At.region (At.does R R R R (jb (x := (.tv (kInt .i64) x1)) (ja R)) ?_)))))
   refine At.does R R R R (jb (x := (.tv (kInt .i64) y1)) (ja R)) ?_
   refine At.does R R R R (jk (ja R) (ja R) vc) ?_
   refine At.done (At.vg ?_)
   refine At.cond (ja R) (fun hb4 => ?_) (fun hb4 => ?_)
   ·replace hF := W.ite_t hb4 hF
    refine At.seq (At.region (At.does R R R R (jd (x := (.tv (kInt .i64) (-1 : Int))) (ji _ _)) ?_))
    refine At.done (At.vg (At.ret (At.vh ?_)))
    exact At.ret_1 rfl (rv_tmp rfl) [] rfl ⟨(-1 : Int), hF, rfl, rfl⟩
   ·replace hF := W.ite_f hb4 hF
    refine At.skip (At.vg (At.seq (At.seq (At.region (At.does R R R R (jb (x := (.tv (kInt .i64) x1)) (ja R)) ?_)))))
    refine At.does R R R R (jb (x := (.tv (kInt .i64) y1)) (ja R)) ?_
    refine At.does R R R R (jk (ja R) (ja R) bin_gtr) ?_
    refine At.done (At.vg ?_)
    refine At.cond (ja R) (fun hb5 => ?_) (fun hb5 => ?_)
    ·replace hF := W.ite_t hb5 hF
     refine At.seq (At.region (At.does R R R R (jd (x := (.tv (kInt .i64) (1 : Int))) (ji _ _)) ?_))
     refine At.done (At.vg (At.ret (At.vh ?_)))
     exact At.ret_1 rfl (rv_tmp rfl) [] rfl ⟨(1 : Int), hF, rfl, rfl⟩
    ·replace hF := W.ite_f hb5 hF
     refine At.skip (At.vg (At.seq (At.region (At.does R R R R (jd (x := (.tv (kInt .i64) (0 : Int))) (ji _ _)) ?_))))
     refine At.done (At.vg (At.ret ?_))
     exact At.ret_1 rfl (rv_tmp rfl) [] rfl ⟨(0 : Int), hF, rfl, rfl⟩
def geom_near.c1 : W Bool := W.ret true
def geom_near.l1 (l1 : (List Point)) (K1 : W Bool) (A1 : Int → W Bool) (t6 : Int) : W Bool := W.ite (decide (t6 < (l1.length : Int))) (W.req (0 ≤ t6 ∧ t6 < (l1.length : Int)) (W.ite ((decide ((2097152 : Int) < (if ((rd zPoint l1 t6).X) < ((rd zPoint l1 t6).Y) then ((rd zPoint l1 t6).Y) else ((rd zPoint l1 t6).X)))) || (decide ((if ((rd zPoint l1 t6).Y) < ((rd zPoint l1 t6).X) then ((rd zPoint l1 t6).Y) else ((rd zPoint l1 t6).X)) < (-2097152 : Int)))) (W.ret false) (A1 (w64 (t6 + (1 : Int)))))) (K1)
def geom_near.F (l1 : (List Point)) : W Bool := W.ex fun n => W.iter1 (geom_near.l1 l1 (geom_near.c1)) n (0 : Int)
theorem geom_near.ok {l1 : (List Point)} {Q : Bool → Prop} (hF : geom_near.F l1 Q) : Con Tryz.prog 54 [.tv (kSlice kPoint) l1] [] (fun ta rs' => ∃ (r : Bool), Q r ∧ ta = .tv kBool r ∧ rs' = []) := by
 refine Con.intro' Tryz.func54 Tryz.ntmps54 R R (fun C => ?_)
 unfold geom_near.F at hF
 refine At.seq (At.region (At.does R R R R (jd (x := (.tv kBool false)) (jl _)) ?_))
 refine At.done (At.vg ?_)
 refine At.cut (fun rs L => ∃ _ : Unit, geom_near.c1 Q ∧ rs = [] ∧ L = mkL []) ?_ ?_
 ·refine At.seq (At.region (At.does R R R R (jb (x := (.tv (kSlice kPoint) l1)) (ja R)) ?_))
  refine At.does R R R R (js (ja R) Tryz.underlying68) ?_
  refine At.does R R R R (jb (x := (.tv (kInt .i64) (0 : Int))) (ji _ _)) ?_
  refine At.done (At.vg (At.block ?_))
  obtain ⟨n1, hF⟩ := hF
  refine At.weaken [] R [(5, (.tv (kSlice kPoint) l1)), (6, (.tv (kInt .i64) (l1.length : Int))), (7, (.tv (kInt .i64) (0 : Int)))] ⟨R, R, R, trivial⟩ ?_
  refine At.loop (fun m rs L => ∃ (t6 : Int), W.iter1 (geom_near.l1 l1 (geom_near.c1)) m t6 Q ∧ rs = [] ∧ L = mkL [(5, (.tv (kSlice kPoint) l1)), (6, (.tv (kInt .i64) (l1.length : Int))), (7, (.tv (kInt .i64) t6))]) ?_ ?_ (m := n1) ⟨(0 : Int), hF, R, R⟩
  ·rintro rs L ⟨_, hF, _, _⟩; exact hF
  ·rintro m1 _ _ ⟨t6, hF, rfl, rfl⟩
   replace hF := W.iter1_s hF
   unfold geom_near.l1 at hF
   refine At.seq (At.region (At.does R R R R (jk (ja R) (ja R) vc) ?_))
   refine At.done (At.vg (At.seq ?_))
   refine At.cond (ja R) (fun hb9 => ?_) (fun hb9 => ?_)
   ·replace hF := W.ite_t hb9 hF
    refine At.skip (At.vg (At.seq (At.block (At.seq (At.region ?_)))))
    obtain ⟨hq5, hF⟩ := hF
    refine At.does R R R R (ve zPoint (ja R) (ja R) Tryz.underlying68 ty_37 hq5) ?_
    refine At.does R R R R (vp (K := kPoint) (ja R) ty_37) ?_
    refine At.eff R (eff_alloc R R R tz_37) ?_
    rintro _ _ ⟨g5, rfl, rfl⟩
    refine At.eff R (jx R R (ja R) 0 R (Sub.self kPoint) ty_37 (ja R)) ?_
    rintro _ _ ⟨rfl, rfl⟩
    refine At.done (At.vg (At.seq (At.region (At.does R R R R (je (ja R) fa_37_0) ?_))))
    refine At.does R R R R (jc (ja R) 0 R sub_Point_0 ty_3) ?_
    refine At.does R R R R (je (ja R) fa_37_1) ?_
    refine At.does R R R R (jc (ja R) 0 R sub_Point_1 ty_3) ?_
    refine At.does R R R R (does_max (ja R) (ja R)) ?_
    refine At.does R R R R (jk (ja R) (ji _ _) bin_gtr) ?_
    refine At.does R R R R (jb (x := (.tv kBool (decide ((2097152 : Int) < (if ((rd zPoint l1 t6).X) < ((rd zPoint l1 t6).Y) then ((rd zPoint l1 t6).Y) else ((rd zPoint l1 t6).X)))))) (ja R)) ?_
    refine At.vi R R R R (jv R) R (fun hg25 => (je (ja R) fa_37_0)) ?_
    refine At.vi R R R R (jv R) R (fun hg26 => (jc (jh R hg26) 0 R sub_Point_0 ty_3)) ?_
    refine At.vi R R R R (jv R) R (fun hg27 => (je (ja R) fa_37_1)) ?_
    refine At.vi R R R R (jv R) R (fun hg28 => (jc (jh R hg28) 0 R sub_Point_1 ty_3)) ?_
    refine At.vi R R R R (jv R) R (fun hg29 => (does_min (jh R hg29) (jh R hg29))) ?_
    refine At.vi R R R R (jv R) R (fun hg30 => (jk (jh R hg30) (ji _ _) vc)) ?_
    refine At.does R R R R (jm (ja R) (jl _) (ja R) pick_or) ?_
    refine At.done (At.vg ?_)
    refine At.cond (ja R) (fun hb10 => ?_) (fun hb10 => ?_)
    ·replace hF := W.ite_t hb10 hF
     refine At.seq (At.region (At.does R R R R (jd (x := (.tv kBool false)) (jl _)) ?_))
     refine At.done (At.vg (At.ret ?_))
     refine At.block_ret ?_
     refine At.vh (At.vh ?_)
     refine At.block_ret ?_
     refine At.vh ?_
     exact At.ret_1 rfl (rv_tmp rfl) [] rfl ⟨false, hF, rfl, rfl⟩
    ·replace hF := W.ite_f hb10 hF
     refine At.skip ?_
     refine At.block_normal ?_
     refine At.vg (At.region (At.does R R R R (jk (ja R) (ji _ _) jz) ?_))
     refine At.does R R R R (jb (x := (.tv (kInt .i64) (w64 (t6 + (1 : Int))))) (ja R)) ?_
     refine At.done (At.vg ?_)
     refine At.weaken [] R [(5, (.tv (kSlice kPoint) l1)), (6, (.tv (kInt .i64) (l1.length : Int))), (7, (.tv (kInt .i64) (w64 (t6 + (1 : Int)))))] ⟨R, R, R, trivial⟩ (At.reach ⟨(w64 (t6 + (1 : Int))), hF, R, R⟩)
   ·replace hF := W.ite_f hb9 hF
    refine At.exit ?_
    refine At.then_exit (At.then_exit ?_)
    refine At.block_here ?_
    refine At.vg ?_
    refine At.weaken [] R [] trivial (At.reach ⟨(), hF, R, R⟩)
 ·rintro _ _ ⟨_, hF, rfl, rfl⟩
  unfold geom_near.c1 at hF
  refine At.seq (At.region (At.does R R R R (jd (x := (.tv kBool true)) (jl _)) ?_))
  refine At.done (At.vg (At.ret ?_))
  exact At.ret_1 rfl (rv_tmp rfl) [] rfl ⟨true, hF, rfl, rfl⟩
def geom_to.F (a1 : Point) (b1 : Point) : W geom_vector := W.ret (⟨(w64 (b1.X - a1.X)), (w64 (b1.Y - a1.Y))⟩ : geom_vector)
theorem geom_to.ok {a1 : Point} {b1 : Point} {Q : geom_vector → Prop} (hF : geom_to.F a1 b1 Q) : Con Tryz.prog 90 [.tv kPoint a1, .tv kPoint b1] [] (fun ta rs' => ∃ (r : geom_vector), Q r ∧ ta = .tv kgeom_vector r ∧ rs' = []) := by
 refine Con.intro' Tryz.func90 Tryz.ntmps90 R R (fun C => ?_)
 unfold geom_to.F at hF
 refine At.seq (At.region (At.eff R (jw R R R (ja R)) ?_))
 rintro _ _ ⟨g1, rfl, rfl⟩
 refine At.eff R (jw R R R (ja R)) ?_
 rintro _ _ ⟨g2, rfl, rfl⟩
 refine At.eff R (eff_alloc R R R tz_141) ?_
 rintro _ _ ⟨g3, rfl, rfl⟩
 refine At.done (At.vg (At.seq (At.region (At.does R R R R (je (ja R) fa_37_0) ?_))))
 refine At.does R R R R (jc (ja R) 1 R sub_Point_0 ty_3) ?_
 refine At.does R R R R (je (ja R) fa_37_0) ?_
 refine At.does R R R R (jc (ja R) 2 R sub_Point_0 ty_3) ?_
 refine At.does R R R R (jk (ja R) (ja R) bin_sub) ?_
 refine At.does R R R R (je (ja R) fa_37_1) ?_
 refine At.does R R R R (jc (ja R) 1 R sub_Point_1 ty_3) ?_
 refine At.does R R R R (je (ja R) fa_37_1) ?_
 refine At.does R R R R (jc (ja R) 2 R sub_Point_1 ty_3) ?_
 refine At.does R R R R (jk (ja R) (ja R) bin_sub) ?_
 refine At.does R R R R (jy (jr (ja R) (jr (ja R) parts_nil)) zr_141 bd_141 R (fills_cons R sub_geom_vector_0 (fills_cons R sub_geom_vector_1 fills_nil))) ?_
 refine At.eff R (jx R R (ja R) 0 R (Sub.self kgeom_vector) ty_141 (ja R)) ?_
 rintro _ _ ⟨rfl, rfl⟩
 refine At.done (At.vg (At.ret ?_))
 exact At.ret_1 rfl (rv_cell rfl 0 rfl ty_141) [] rfl ⟨(⟨(w64 (b1.X - a1.X)), (w64 (b1.Y - a1.Y))⟩ : geom_vector), hF, rfl, rfl⟩
def geom_vector_cross.F (v1 : geom_vector) (w1 : geom_vector) : W Int := W.ret (w64 ((w64 (v1.x * w1.y)) - (w64 (v1.y * w1.x))))
theorem geom_vector_cross.ok {v1 : geom_vector} {w1 : geom_vector} {Q : Int → Prop} (hF : geom_vector_cross.F v1 w1 Q) : Con Tryz.prog 91 [.tv kgeom_vector v1, .tv kgeom_vector w1] [] (fun ta rs' => ∃ (r : Int), Q r ∧ ta = .tv (kInt .i64) r ∧ rs' = []) := by
 refine Con.intro' Tryz.func91 Tryz.ntmps91 R R (fun C => ?_)
 unfold geom_vector_cross.F at hF
 refine At.seq (At.region (At.eff R (jw R R R (ja R)) ?_))
 rintro _ _ ⟨g1, rfl, rfl⟩
 refine At.eff R (jw R R R (ja R)) ?_
 rintro _ _ ⟨g2, rfl, rfl⟩
 refine At.does R R R R (jd (x := (.tv (kInt .i64) (0 : Int))) (ji _ _)) ?_
 refine At.done (At.vg (At.seq (At.region (At.does R R R R (je (ja R) fa_141_0) ?_))))
 refine At.does R R R R (jc (ja R) 1 R sub_geom_vector_0 ty_3) ?_
 refine At.does R R R R (je (ja R) fa_141_1) ?_
 refine At.does R R R R (jc (ja R) 0 R sub_geom_vector_1 ty_3) ?_
 refine At.does R R R R (jk (ja R) (ja R) bin_mul) ?_
 refine At.does R R R R (je (ja R) fa_141_1) ?_
 refine At.does R R R R (jc (ja R) 1 R sub_geom_vector_1 ty_3) ?_
 refine At.does R R R R (je (ja R) fa_141_0) ?_
 refine At.does R R R R (jc (ja R) 0 R sub_geom_vector_0 ty_3) ?_
 refine At.does R R R R (jk (ja R) (ja R) bin_mul) ?_
 refine At.does R R R R (jk (ja R) (ja R) bin_sub) ?_
 refine At.does R R R R (jd (x := (.tv (kInt .i64) (w64 ((w64 (v1.x * w1.y)) - (w64 (v1.y * w1.x)))))) (ja R)) ?_
 refine At.done (At.vg (At.ret ?_))
 exact At.ret_1 rfl (rv_tmp rfl) [] rfl ⟨(w64 ((w64 (v1.x * w1.y)) - (w64 (v1.y * w1.x)))), hF, rfl, rfl⟩
def geom_Orient.F (a1 : Point) (b1 : Point) (c1 : Point) : W Int := W.bind (geom_near.F ([a1, b1, c1] : List Point)) (fun r1 => W.ite (!r1) (W.ret (0 : Int)) (W.bind (geom_to.F a1 b1) (fun r2 => W.bind (geom_to.F a1 c1) (fun r3 => W.bind (geom_vector_cross.F r2 r3) (fun r4 => W.bind (cmp_Compare_int.F r4 (0 : Int)) (fun r5 => W.ret r5))))))
theorem geom_Orient.ok {a1 : Point} {b1 : Point} {c1 : Point} {Q : Int → Prop} (hF : geom_Orient.F a1 b1 c1 Q) : Con Tryz.prog 56 [.tv kPoint a1, .tv kPoint b1, .tv kPoint c1] [] (fun ta rs' => ∃ (r : Int), Q r ∧ ta = .tv (kInt .i64) r ∧ rs' = []) := by
 refine Con.intro' Tryz.func56 Tryz.ntmps56 R R (fun C => ?_)
 unfold geom_Orient.F at hF
 refine At.seq (At.region (At.eff R (jw R R R (ja R)) ?_))
 rintro _ _ ⟨g1, rfl, rfl⟩
 refine At.eff R (jw R R R (ja R)) ?_
 rintro _ _ ⟨g2, rfl, rfl⟩
 refine At.eff R (jw R R R (ja R)) ?_
 rintro _ _ ⟨g3, rfl, rfl⟩
 refine At.does R R R R (jd (x := (.tv (kInt .i64) (0 : Int))) (ji _ _)) ?_
 refine At.done (At.vg (At.seq (At.seq (At.region (At.does R R R R (jc (ja R) 2 R (Sub.self kPoint) ty_37) ?_)))))
 refine At.does R R R R (jc (ja R) 1 R (Sub.self kPoint) ty_37) ?_
 refine At.does R R R R (jc (ja R) 0 R (Sub.self kPoint) ty_37) ?_
 refine At.eff R (eff_lit R R R (os := [.tmp 8, .tmp 9, .tmp 10]) R sl_68 (xs := ([a1, b1, c1] : List Point)) (jf (ja R) (jf (ja R) (jf (ja R) jg))) R R) ?_
 rintro _ _ ⟨v1, rfl, rfl⟩
 replace hF := W.vl hF
 refine At.eff R (jn R R (lends_row 0 11 R R jp) (jq R en_54 (jf (ja R) jg)) (geom_near.ok hF) (by rintro _ _ ⟨r, _, rfl, _⟩; exact vk)) ?_
 rintro _ _ ⟨_, _, ⟨r1, hF, rfl, rfl⟩, rfl, rfl⟩
 refine At.does R R R R (does_not (ja R)) ?_
 refine At.done (At.vg ?_)
 refine At.cond (ja R) (fun hb1 => ?_) (fun hb1 => ?_)
 ·replace hF := W.ite_t hb1 hF
  refine At.seq (At.region (At.does R R R R (jd (x := (.tv (kInt .i64) (0 : Int))) (ji _ _)) ?_))
  refine At.done (At.vg (At.ret (At.vh ?_)))
  exact At.ret_1 rfl (rv_tmp rfl) [] rfl ⟨(0 : Int), hF, rfl, rfl⟩
 ·replace hF := W.ite_f hb1 hF
  refine At.skip (At.vg (At.seq (At.region (At.does R R R R (jc (ja R) 3 R (Sub.self kPoint) ty_37) ?_))))
  refine At.does R R R R (jc (ja R) 2 R (Sub.self kPoint) ty_37) ?_
  replace hF := W.vl hF
  refine At.eff R (jn R R jp (jq R en_90 (jf (ja R) (jf (ja R) jg))) (geom_to.ok hF) (by rintro _ _ ⟨r, _, rfl, _⟩; exact (flat_tv flat_geom_vector))) ?_
  rintro _ _ ⟨_, _, ⟨r2, hF, rfl, rfl⟩, rfl, rfl⟩
  refine At.does R R R R (does_cls (firsts := [.tmp 16]) (caps := []) R (jf (ja R) jg)) ?_
  refine At.does R R R R (jd (x := (.cls 91 1 (tupl [(.tv kgeom_vector r2)]))) (ja R)) ?_
  refine At.done (At.vg (At.seq (At.region (At.does R R R R (jb (x := (.cls 91 1 (tupl [(.tv kgeom_vector r2)]))) (ja R)) ?_))))
  refine At.does R R R R (jc (ja R) 3 R (Sub.self kPoint) ty_37) ?_
  refine At.does R R R R (jc (ja R) 1 R (Sub.self kPoint) ty_37) ?_
  replace hF := W.vl hF
  refine At.eff R (jn R R jp (jq R en_90 (jf (ja R) (jf (ja R) jg))) (geom_to.ok hF) (by rintro _ _ ⟨r, _, rfl, _⟩; exact (flat_tv flat_geom_vector))) ?_
  rintro _ _ ⟨_, _, ⟨r3, hF, rfl, rfl⟩, rfl, rfl⟩
  replace hF := W.vl hF
  refine At.eff R (jn R R jp (ent_val1 R (ja R) en_91 (jf (ja R) jg)) (geom_vector_cross.ok hF) (by rintro _ _ ⟨r, _, rfl, _⟩; exact flat_int)) ?_
  rintro _ _ ⟨_, _, ⟨r4, hF, rfl, rfl⟩, rfl, rfl⟩
  replace hF := W.vl hF
  refine At.eff R (jn R R jp (jq R en_92 (jf (ja R) (jf (ji _ _) jg))) (cmp_Compare_int.ok hF) (by rintro _ _ ⟨r, _, rfl, _⟩; exact flat_int)) ?_
  rintro _ _ ⟨_, _, ⟨r5, hF, rfl, rfl⟩, rfl, rfl⟩
  refine At.does R R R R (jd (x := (.tv (kInt .i64) r5)) (ja R)) ?_
  refine At.done (At.vg (At.ret ?_))
  exact At.ret_1 rfl (rv_tmp rfl) [] rfl ⟨r5, hF, rfl, rfl⟩
def geom_first_int.c1 : W Int := W.ret (0 : Int)
def geom_first_int.l1 (pairs1 : (List (Int × Int))) (K1 : W Int) (A1 : Int → W Int) (t6 : Int) : W Int := W.ite (decide (t6 < (pairs1.length : Int))) (W.req (0 ≤ t6 ∧ t6 < (pairs1.length : Int)) (W.bind (cmp_Compare_int.F ((rd ((0 : Int), (0 : Int)) pairs1 t6).1) ((rd ((0 : Int), (0 : Int)) pairs1 t6).2)) (fun r5 => W.ite (r5 != (0 : Int)) (W.ret r5) (A1 (w64 (t6 + (1 : Int))))))) (K1)
def geom_first_int.F (pairs1 : (List (Int × Int))) : W Int := W.ex fun n => W.iter1 (geom_first_int.l1 pairs1 (geom_first_int.c1)) n (0 : Int)
theorem geom_first_int.ok {pairs1 : (List (Int × Int))} {Q : Int → Prop} (hF : geom_first_int.F pairs1 Q) : Con Tryz.prog 132 [.tv (kSlice (kPair (kInt .i64) (kInt .i64))) pairs1] [] (fun ta rs' => ∃ (r : Int), Q r ∧ ta = .tv (kInt .i64) r ∧ rs' = []) := by
 refine Con.intro' Tryz.func132 Tryz.ntmps132 R R (fun C => ?_)
 unfold geom_first_int.F at hF
 refine At.seq (At.region (At.does R R R R (jd (x := (.tv (kInt .i64) (0 : Int))) (ji _ _)) ?_))
 refine At.done (At.vg ?_)
 refine At.cut (fun rs L => ∃ _ : Unit, geom_first_int.c1 Q ∧ rs = [] ∧ L = mkL []) ?_ ?_
 ·refine At.seq (At.region (At.does R R R R (jb (x := (.tv (kSlice (kPair (kInt .i64) (kInt .i64))) pairs1)) (ja R)) ?_))
  refine At.does R R R R (js (ja R) Tryz.underlying199) ?_
  refine At.does R R R R (jb (x := (.tv (kInt .i64) (0 : Int))) (ji _ _)) ?_
  refine At.done (At.vg (At.block ?_))
  obtain ⟨n1, hF⟩ := hF
  refine At.weaken [] R [(6, (.tv (kSlice (kPair (kInt .i64) (kInt .i64))) pairs1)), (7, (.tv (kInt .i64) (pairs1.length : Int))), (8, (.tv (kInt .i64) (0 : Int)))] ⟨R, R, R, trivial⟩ ?_
  refine At.loop (fun m rs L => ∃ (t6 : Int), W.iter1 (geom_first_int.l1 pairs1 (geom_first_int.c1)) m t6 Q ∧ rs = [] ∧ L = mkL [(6, (.tv (kSlice (kPair (kInt .i64) (kInt .i64))) pairs1)), (7, (.tv (kInt .i64) (pairs1.length : Int))), (8, (.tv (kInt .i64) t6))]) ?_ ?_ (m := n1) ⟨(0 : Int), hF, R, R⟩
  ·rintro rs L ⟨_, hF, _, _⟩; exact hF
  ·rintro m1 _ _ ⟨t6, hF, rfl, rfl⟩
   replace hF := W.iter1_s hF
   unfold geom_first_int.l1 at hF
   refine At.seq (At.region (At.does R R R R (jk (ja R) (ja R) vc) ?_))
   refine At.done (At.vg (At.seq ?_))
   refine At.cond (ja R) (fun hb9 => ?_) (fun hb9 => ?_)
   ·replace hF := W.ite_t hb9 hF
    refine At.skip (At.vg (At.seq (At.block (At.seq (At.region ?_)))))
    obtain ⟨hq5, hF⟩ := hF
    refine At.does R R R R (ve ((0 : Int), (0 : Int)) (ja R) (ja R) Tryz.underlying199 ty_92 hq5) ?_
    refine At.does R R R R (vp (K := (kPair (kInt .i64) (kInt .i64))) (ja R) ty_92) ?_
    refine At.eff R (eff_alloc R R R tz_92) ?_
    rintro _ _ ⟨g5, rfl, rfl⟩
    refine At.eff R (jx R R (ja R) 0 R (Sub.self (kPair (kInt .i64) (kInt .i64))) ty_92 (ja R)) ?_
    rintro _ _ ⟨rfl, rfl⟩
    refine At.done (At.vg (At.seq (At.region (At.does R R R R (does_aidx_box (ja R) (ji _ _) ia_92_0) ?_))))
    refine At.does R R R R (jc (ja R) 0 R sub_a92_0 ty_3) ?_
    refine At.does R R R R (does_aidx_box (ja R) (ji _ _) ia_92_1) ?_
    refine At.does R R R R (jc (ja R) 0 R sub_a92_1 ty_3) ?_
    replace hF := W.vl hF
    refine At.eff R (jn R R jp (jq R en_92 (jf (ja R) (jf (ja R) jg))) (cmp_Compare_int.ok hF) (by rintro _ _ ⟨r, _, rfl, _⟩; exact flat_int)) ?_
    rintro _ _ ⟨_, _, ⟨r5, hF, rfl, rfl⟩, rfl, rfl⟩
    refine At.does R R R R (jd (x := (.tv (kInt .i64) r5)) (ja R)) ?_
    refine At.done (At.vg (At.seq (At.region (At.does R R R R (jb (x := (.tv (kInt .i64) r5)) (ja R)) ?_))))
    refine At.does R R R R (jk (ja R) (ji _ _) bin_neq) ?_
    refine At.done (At.vg ?_)
    refine At.cond (ja R) (fun hb10 => ?_) (fun hb10 => ?_)
    ·replace hF := W.ite_t hb10 hF
     refine At.seq (At.region (At.does R R R R (jb (x := (.tv (kInt .i64) r5)) (ja R)) ?_))
     refine At.does R R R R (jd (x := (.tv (kInt .i64) r5)) (ja R)) ?_
     refine At.done (At.vg (At.ret ?_))
     refine At.block_ret ?_
     refine At.vh (At.vh ?_)
     refine At.block_ret ?_
     refine At.vh ?_
     exact At.ret_1 rfl (rv_tmp rfl) [] rfl ⟨r5, hF, rfl, rfl⟩
    ·replace hF := W.ite_f hb10 hF
     refine At.skip ?_
     refine At.block_normal ?_
     refine At.vg (At.region (At.does R R R R (jk (ja R) (ji _ _) jz) ?_))
     refine At.does R R R R (jb (x := (.tv (kInt .i64) (w64 (t6 + (1 : Int))))) (ja R)) ?_
     refine At.done (At.vg ?_)
     refine At.weaken [] R [(6, (.tv (kSlice (kPair (kInt .i64) (kInt .i64))) pairs1)), (7, (.tv (kInt .i64) (pairs1.length : Int))), (8, (.tv (kInt .i64) (w64 (t6 + (1 : Int)))))] ⟨R, R, R, trivial⟩ (At.reach ⟨(w64 (t6 + (1 : Int))), hF, R, R⟩)
   ·replace hF := W.ite_f hb9 hF
    refine At.exit ?_
    refine At.then_exit (At.then_exit ?_)
    refine At.block_here ?_
    refine At.vg ?_
    refine At.weaken [] R [] trivial (At.reach ⟨(), hF, R, R⟩)
 ·rintro _ _ ⟨_, hF, rfl, rfl⟩
  unfold geom_first_int.c1 at hF
  refine At.seq (At.region (At.does R R R R (jd (x := (.tv (kInt .i64) (0 : Int))) (ji _ _)) ?_))
  refine At.done (At.vg (At.ret ?_))
  exact At.ret_1 rfl (rv_tmp rfl) [] rfl ⟨(0 : Int), hF, rfl, rfl⟩
def geom_Compare.F (a1 : Point) (b1 : Point) : W Int := W.bind (geom_first_int.F ([(a1.X, b1.X), (a1.Y, b1.Y)] : List (Int × Int))) (fun r1 => W.ret r1)
theorem geom_Compare.ok {a1 : Point} {b1 : Point} {Q : Int → Prop} (hF : geom_Compare.F a1 b1 Q) : Con Tryz.prog 89 [.tv kPoint a1, .tv kPoint b1] [] (fun ta rs' => ∃ (r : Int), Q r ∧ ta = .tv (kInt .i64) r ∧ rs' = []) := by
 refine Con.intro' Tryz.func89 Tryz.ntmps89 R R (fun C => ?_)
 unfold geom_Compare.F at hF
 refine At.seq (At.region (At.eff R (jw R R R (ja R)) ?_))
 rintro _ _ ⟨g1, rfl, rfl⟩
 refine At.eff R (jw R R R (ja R)) ?_
 rintro _ _ ⟨g2, rfl, rfl⟩
 refine At.does R R R R (jd (x := (.tv (kInt .i64) (0 : Int))) (ji _ _)) ?_
 refine At.done (At.vg (At.seq (At.region (At.does R R R R (je (ja R) fa_37_0) ?_))))
 refine At.does R R R R (jc (ja R) 1 R sub_Point_0 ty_3) ?_
 refine At.does R R R R (je (ja R) fa_37_0) ?_
 refine At.does R R R R (jc (ja R) 0 R sub_Point_0 ty_3) ?_
 refine At.does R R R R (jy (jr (ja R) (jr (ja R) parts_nil)) zr_92 bd_92 R (fills_cons R sub_a92_0 (fills_cons R sub_a92_1 fills_nil))) ?_
 refine At.does R R R R (je (ja R) fa_37_1) ?_
 refine At.does R R R R (jc (ja R) 1 R sub_Point_1 ty_3) ?_
 refine At.does R R R R (je (ja R) fa_37_1) ?_
 refine At.does R R R R (jc (ja R) 0 R sub_Point_1 ty_3) ?_
 refine At.does R R R R (jy (jr (ja R) (jr (ja R) parts_nil)) zr_92 bd_92 R (fills_cons R sub_a92_0 (fills_cons R sub_a92_1 fills_nil))) ?_
 refine At.eff R (eff_lit R R R (os := [.tmp 9, .tmp 14]) R sl_199 (xs := ([(a1.X, b1.X), (a1.Y, b1.Y)] : List (Int × Int))) (jf (ja R) (jf (ja R) jg)) R R) ?_
 rintro _ _ ⟨v1, rfl, rfl⟩
 replace hF := W.vl hF
 refine At.eff R (jn R R (lends_row 0 15 R R jp) (jq R en_132 (jf (ja R) jg)) (geom_first_int.ok hF) (by rintro _ _ ⟨r, _, rfl, _⟩; exact flat_int)) ?_
 rintro _ _ ⟨_, _, ⟨r1, hF, rfl, rfl⟩, rfl, rfl⟩
 refine At.does R R R R (jd (x := (.tv (kInt .i64) r1)) (ja R)) ?_
 refine At.done (At.vg (At.ret ?_))
 exact At.ret_1 rfl (rv_tmp rfl) [] rfl ⟨r1, hF, rfl, rfl⟩
def geom_sorted.F (s1 : Segment) : W Segment := W.bind (geom_Compare.F s1.A s1.B) (fun r1 => W.ite (decide ((0 : Int) < r1)) (W.ret ({ ({ s1 with A := s1.B } : Segment) with B := s1.A } : Segment)) (W.ret s1))
theorem geom_sorted.ok {s1 : Segment} {Q : Segment → Prop} (hF : geom_sorted.F s1 Q) : Con Tryz.prog 55 [.tv kSegment s1] [] (fun ta rs' => ∃ (r : Segment), Q r ∧ ta = .tv kSegment r ∧ rs' = []) := by
 refine Con.intro' Tryz.func55 Tryz.ntmps55 R R (fun C => ?_)
 unfold geom_sorted.F at hF
 refine At.seq (At.region (At.eff R (jw R R R (ja R)) ?_))
 rintro _ _ ⟨g1, rfl, rfl⟩
 refine At.eff R (eff_alloc R R R tz_39) ?_
 rintro _ _ ⟨g2, rfl, rfl⟩
 refine At.done (At.vg (At.seq (At.seq (At.region (At.does R R R R (je (ja R) fa_39_0) ?_)))))
 refine At.does R R R R (jc (ja R) 1 R vz ty_37) ?_
 refine At.does R R R R (je (ja R) fa_39_1) ?_
 refine At.does R R R R (jc (ja R) 1 R Ja ty_37) ?_
 replace hF := W.vl hF
 refine At.eff R (jn R R jp (jq R en_89 (jf (ja R) (jf (ja R) jg))) (geom_Compare.ok hF) (by rintro _ _ ⟨r, _, rfl, _⟩; exact flat_int)) ?_
 rintro _ _ ⟨_, _, ⟨r1, hF, rfl, rfl⟩, rfl, rfl⟩
 refine At.does R R R R (jk (ja R) (ji _ _) bin_gtr) ?_
 refine At.done (At.vg ?_)
 refine At.cond (ja R) (fun hb1 => ?_) (fun hb1 => ?_)
 ·replace hF := W.ite_t hb1 hF
  refine At.region (At.does R R R R (je (ja R) fa_39_1) ?_)
  refine At.does R R R R (jc (ja R) 1 R Ja ty_37) ?_
  refine At.does R R R R (je (ja R) fa_39_0) ?_
  refine At.does R R R R (jc (ja R) 1 R vz ty_37) ?_
  refine At.does R R R R (je (ja R) fa_39_0) ?_
  refine At.eff R (jx R R (ja R) 1 R vz ty_37 (ja R)) ?_
  rintro _ _ ⟨rfl, rfl⟩
  refine At.does R R R R (je (ja R) fa_39_1) ?_
  refine At.eff R (jx R R (ja R) 1 R Ja ty_37 (ja R)) ?_
  rintro _ _ ⟨rfl, rfl⟩
  refine At.done (At.vg (At.seq (At.region (At.does R R R R (jc (ja R) 1 R (Sub.self kSegment) ty_39) ?_))))
  refine At.eff R (jx R R (ja R) 0 R (Sub.self kSegment) ty_39 (ja R)) ?_
  rintro _ _ ⟨rfl, rfl⟩
  refine At.done (At.vg (At.ret ?_))
  exact At.ret_1 rfl (rv_cell rfl 0 rfl ty_39) [] rfl ⟨({ ({ s1 with A := s1.B } : Segment) with B := s1.A } : Segment), hF, rfl, rfl⟩
 ·replace hF := W.ite_f hb1 hF
  refine At.skip (At.vg (At.seq (At.region (At.does R R R R (jc (ja R) 1 R (Sub.self kSegment) ty_39) ?_))))
  refine At.eff R (jx R R (ja R) 0 R (Sub.self kSegment) ty_39 (ja R)) ?_
  rintro _ _ ⟨rfl, rfl⟩
  refine At.done (At.vg (At.ret ?_))
  exact At.ret_1 rfl (rv_cell rfl 0 rfl ty_39) [] rfl ⟨s1, hF, rfl, rfl⟩
def geom_On.F (s1 : Segment) (p1 : Point) : W Bool := W.bind (geom_near.F ([s1.A, s1.B, p1] : List Point)) (fun r1 => W.ite (!r1) (W.ret false) (W.bind (geom_sorted.F s1) (fun r2 => W.bind (geom_Orient.F r2.A r2.B p1) (fun r3 => W.bind (W.ite (r3 == (0 : Int)) (geom_Compare.F r2.A p1) (W.ret (0 : Int))) (fun r4 => W.bind (W.ite ((r3 == (0 : Int)) && (decide (r4 ≤ (0 : Int)))) (geom_Compare.F p1 r2.B) (W.ret (0 : Int))) (fun r5 => W.ret ((((r3 == (0 : Int)) && (decide (r4 ≤ (0 : Int)))) && (decide (r5 ≤ (0 : Int)))) && ((!(eq_Point r2.A r2.B)) || (eq_Point p1 r2.A)))))))))
theorem geom_On.ok {s1 : Segment} {p1 : Point} {Q : Bool → Prop} (hF : geom_On.F s1 p1 Q) : Con Tryz.prog 93 [.tv kSegment s1, .tv kPoint p1] [] (fun ta rs' => ∃ (r : Bool), Q r ∧ ta = .tv kBool r ∧ rs' = []) := by
 refine Con.intro' Tryz.func93 Tryz.ntmps93 R R (fun C => ?_)
 unfold geom_On.F at hF
 refine At.seq (At.region (At.eff R (jw R R R (ja R)) ?_))
 rintro _ _ ⟨g1, rfl, rfl⟩
 refine At.eff R (jw R R R (ja R)) ?_
 rintro _ _ ⟨g2, rfl, rfl⟩
 refine At.does R R R R (jd (x := (.tv kBool false)) (jl _)) ?_
 refine At.done (At.vg (At.seq (At.seq (At.region (At.does R R R R (je (ja R) fa_39_0) ?_)))))
 refine At.does R R R R (jc (ja R) 1 R vz ty_37) ?_
 refine At.does R R R R (je (ja R) fa_39_1) ?_
 refine At.does R R R R (jc (ja R) 1 R Ja ty_37) ?_
 refine At.does R R R R (jc (ja R) 0 R (Sub.self kPoint) ty_37) ?_
 refine At.eff R (eff_lit R R R (os := [.tmp 6, .tmp 8, .tmp 9]) R sl_68 (xs := ([s1.A, s1.B, p1] : List Point)) (jf (ja R) (jf (ja R) (jf (ja R) jg))) R R) ?_
 rintro _ _ ⟨v1, rfl, rfl⟩
 replace hF := W.vl hF
 refine At.eff R (jn R R (lends_row 0 10 R R jp) (jq R en_54 (jf (ja R) jg)) (geom_near.ok hF) (by rintro _ _ ⟨r, _, rfl, _⟩; exact vk)) ?_
 rintro _ _ ⟨_, _, ⟨r1, hF, rfl, rfl⟩, rfl, rfl⟩
 refine At.does R R R R (does_not (ja R)) ?_
 refine At.done (At.vg ?_)
 refine At.cond (ja R) (fun hb1 => ?_) (fun hb1 => ?_)
 ·replace hF := W.ite_t hb1 hF
  refine At.seq (At.region (At.does R R R R (jd (x := (.tv kBool false)) (jl _)) ?_))
  refine At.done (At.vg (At.ret (At.vh ?_)))
  exact At.ret_1 rfl (rv_tmp rfl) [] rfl ⟨false, hF, rfl, rfl⟩
 ·replace hF := W.ite_f hb1 hF
  refine At.skip (At.vg (At.seq (At.region (At.does R R R R (jc (ja R) 2 R (Sub.self kSegment) ty_39) ?_))))
  replace hF := W.vl hF
  refine At.eff R (jn R R jp (jq R en_55 (jf (ja R) jg)) (geom_sorted.ok hF) (by rintro _ _ ⟨r, _, rfl, _⟩; exact (flat_tv flat_Segment))) ?_
  rintro _ _ ⟨_, _, ⟨r2, hF, rfl, rfl⟩, rfl, rfl⟩
  refine At.eff R (jx R R (ja R) 2 R (Sub.self kSegment) ty_39 (ja R)) ?_
  rintro _ _ ⟨rfl, rfl⟩
  refine At.done (At.vg (At.seq (At.region (At.does R R R R (je (ja R) fa_39_0) ?_))))
  refine At.does R R R R (jc (ja R) 2 R vz ty_37) ?_
  refine At.does R R R R (je (ja R) fa_39_1) ?_
  refine At.does R R R R (jc (ja R) 2 R Ja ty_37) ?_
  refine At.does R R R R (jc (ja R) 1 R (Sub.self kPoint) ty_37) ?_
  replace hF := W.vl hF
  refine At.eff R (jn R R jp (jq R en_56 (jf (ja R) (jf (ja R) (jf (ja R) jg)))) (geom_Orient.ok hF) (by rintro _ _ ⟨r, _, rfl, _⟩; exact flat_int)) ?_
  rintro _ _ ⟨_, _, ⟨r3, hF, rfl, rfl⟩, rfl, rfl⟩
  refine At.does R R R R (jk (ja R) (ji _ _) bin_eql) ?_
  refine At.does R R R R (jb (x := (.tv kBool (r3 == (0 : Int)))) (ja R)) ?_
  refine At.vi R R R R (ju R) R (fun hg1 => (je (ja R) fa_39_0)) ?_
  refine At.vi R R R R (ju R) R (fun hg2 => (jc (jh R hg2) 2 R vz ty_37)) ?_
  refine At.vi R R R R (ju R) R (fun hg3 => (jc (ja R) 1 R (Sub.self kPoint) ty_37)) ?_
  replace hF := W.vl hF
  refine At.effG R R R R (ju R) hF (fun r => .tv (kInt .i64) r) (fun hg4 hF => eff_of (jn R R jp (jq R en_89 (jf (jh R hg4) (jf (jh R hg4) jg))) (geom_Compare.ok hF) (by rintro _ _ ⟨r, _, rfl, _⟩; exact flat_int)) (by rintro _ _ ⟨_, _, ⟨r, hF, rfl, rfl⟩, rfl, rfl⟩; exact ⟨r, hF, R, R⟩)) (fun r4 hF => ?_)
  refine At.vi R R R R (ju R) R (fun hg5 => (jk (jh R hg5) (ji _ _) bin_leq)) ?_
  refine At.does R R R R (jm (ja R) (ja R) (jl _) vd) ?_
  refine At.does R R R R (jb (x := (.tv kBool ((r3 == (0 : Int)) && (decide (r4 ≤ (0 : Int)))))) (ja R)) ?_
  refine At.vi R R R R (ju R) R (fun hg6 => (jc (ja R) 1 R (Sub.self kPoint) ty_37)) ?_
  refine At.vi R R R R (ju R) R (fun hg7 => (je (ja R) fa_39_1)) ?_
  refine At.vi R R R R (ju R) R (fun hg8 => (jc (jh R hg8) 2 R Ja ty_37)) ?_
  replace hF := W.vl hF
  refine At.effG R R R R (ju R) hF (fun r => .tv (kInt .i64) r) (fun hg9 hF => eff_of (jn R R jp (jq R en_89 (jf (jh R hg9) (jf (jh R hg9) jg))) (geom_Compare.ok hF) (by rintro _ _ ⟨r, _, rfl, _⟩; exact flat_int)) (by rintro _ _ ⟨_, _, ⟨r, hF, rfl, rfl⟩, rfl, rfl⟩; exact ⟨r, hF, R, R⟩)) (fun r5 hF => ?_)
  refine At.vi R R R R (ju R) R (fun hg10 => (jk (jh R hg10) (ji _ _) bin_leq)) ?_
  refine At.does R R R R (jm (ja R) (ja R) (jl _) vd) ?_
  refine At.does R R R R (jb (x := (.tv kBool (((r3 == (0 : Int)) && (decide (r4 ≤ (0 : Int)))) && (decide (r5 ≤ (0 : Int)))))) (ja R)) ?_
  refine At.vi R R R R (ju R) R (fun hg11 => (je (ja R) fa_39_0)) ?_
  refine At.vi R R R R (ju R) R (fun hg12 => (jc (jh R hg12) 2 R vz ty_37)) ?_
  refine At.vi R R R R (ju R) R (fun hg13 => (je (ja R) fa_39_1)) ?_
  refine At.vi R R R R (ju R) R (fun hg14 => (jc (jh R hg14) 2 R Ja ty_37)) ?_
  refine At.vi R R R R (ju R) R (fun hg15 => (jk (jh R hg15) (jh R hg15) (bin_ne eqty_37))) ?_
  refine At.vi R R R R (ju R) R (fun hg16 => (jb (x := (.tv kBool (!(eq_Point r2.A r2.B)))) (jh R hg16))) ?_
  refine At.vi R R R R (sees_wf R) R (fun hg17 => (jc (ja R) 1 R (Sub.self kPoint) ty_37)) ?_
  refine At.vi R R R R (sees_wf R) R (fun hg18 => (je (ja R) fa_39_0)) ?_
  refine At.vi R R R R (sees_wf R) R (fun hg19 => (jc (jh R hg19) 2 R vz ty_37)) ?_
  refine At.vi R R R R (sees_wf R) R (fun hg20 => (jk (jh R hg20) (jh R hg20) (bin_eq eqty_37))) ?_
  refine At.vi R R R R (ju R) R (fun hg21 => (jm (jh R hg21) (jl _) (ja R) (pick_orG (andn_of hg21)))) ?_
  refine At.does R R R R (jm (ja R) (ja R) (jl _) vd) ?_
  refine At.does R R R R (jd (x := (.tv kBool ((((r3 == (0 : Int)) && (decide (r4 ≤ (0 : Int)))) && (decide (r5 ≤ (0 : Int)))) && ((!(eq_Point r2.A r2.B)) || (eq_Point p1 r2.A))))) (ja R)) ?_
  refine At.done (At.vg (At.ret ?_))
  exact At.ret_1 rfl (rv_tmp rfl) [] rfl ⟨((((r3 == (0 : Int)) && (decide (r4 ≤ (0 : Int)))) && (decide (r5 ≤ (0 : Int)))) && ((!(eq_Point r2.A r2.B)) || (eq_Point p1 r2.A))), hF, rfl, rfl⟩
def geom_online.c4 (x5 : Point) (x6 : Point) : W Int := W.bind (geom_Compare.F x5 x6) (fun r4 => W.ite (r4 == (-1 : Int)) (W.ret (5 : Int)) (W.ite (r4 == (0 : Int)) (W.ret (1 : Int)) (W.ret (0 : Int))))
def geom_online.c3 (x2 : Segment) (x4 : Point) (x5 : Point) : W Int := W.bind (geom_Compare.F x2.B x4) (fun r5 => W.ite (decide (r5 < (0 : Int))) ((geom_online.c4 x5) x2.B) ((geom_online.c4 x5) x4))
def geom_online.c2 (x2 : Segment) (x3 : Point) (x4 : Point) : W Int := W.bind (geom_Compare.F x2.A x3) (fun r6 => W.ite (decide ((0 : Int) < r6)) ((geom_online.c3 x2 x4) x2.A) ((geom_online.c3 x2 x4) x3))
def geom_online.c1 (x1 : Segment) (x2 : Segment) : W Int := W.ite (eq_Point x1.A x1.B) (W.bind (geom_On.F x2 x1.A) (fun r1 => W.ite (!r1) (W.ret (0 : Int)) (W.ite ((eq_Point x1.A x2.A) || (eq_Point x1.A x2.B)) (W.ret (1 : Int)) (W.ret (2 : Int))))) ((geom_online.c2 x2) x1.A x1.B)
def geom_online.F (s1 : Segment) (t1 : Segment) : W Int := W.ite (eq_Point t1.A t1.B) ((geom_online.c1) t1 s1) ((geom_online.c1) s1 t1)
theorem geom_online.ok {s1 : Segment} {t1 : Segment} {Q : Int → Prop} (hF : geom_online.F s1 t1 Q) : Con Tryz.prog 57 [.tv kSegment s1, .tv kSegment t1] [] (fun ta rs' => ∃ (r : Int), Q r ∧ ta = .tv (kInt .i64) r ∧ rs' = []) := by
 refine Con.intro' Tryz.func57 Tryz.ntmps57 R R (fun C => ?_)
 unfold geom_online.F at hF
 refine At.seq (At.region (At.eff R (jw R R R (ja R)) ?_))
 rintro _ _ ⟨g1, rfl, rfl⟩
 refine At.eff R (jw R R R (ja R)) ?_
 rintro _ _ ⟨g2, rfl, rfl⟩
 refine At.does R R R R (jd (x := (.tv (kInt .i64) (0 : Int))) (ji _ _)) ?_
 refine At.done (At.vg ?_)
 refine At.cut (fun rs L => ∃ (x1 : Segment) (x2 : Segment), geom_online.c1 x1 x2 Q ∧ rs = [.box g1 39 kSegment x1, .box g2 39 kSegment x2] ∧ L = mkL [(2, (.eq (.pointer (some ⟨g1, 0, none⟩)))), (3, (.eq (.pointer (some ⟨g2, 0, none⟩))))]) ?_ ?_
 ·refine At.seq (At.region (At.does R R R R (je (ja R) fa_39_0) ?_))
  refine At.does R R R R (jc (ja R) 0 R vz ty_37) ?_
  refine At.does R R R R (je (ja R) fa_39_1) ?_
  refine At.does R R R R (jc (ja R) 0 R Ja ty_37) ?_
  refine At.does R R R R (jk (ja R) (ja R) (bin_eq eqty_37)) ?_
  refine At.done (At.vg ?_)
  refine At.cond (ja R) (fun hb11 => ?_) (fun hb11 => ?_)
  ·replace hF := W.ite_t hb11 hF
   refine At.region (At.does R R R R (jc (ja R) 0 R (Sub.self kSegment) ty_39) ?_)
   refine At.does R R R R (jc (ja R) 1 R (Sub.self kSegment) ty_39) ?_
   refine At.eff R (jx R R (ja R) 1 R (Sub.self kSegment) ty_39 (ja R)) ?_
   rintro _ _ ⟨rfl, rfl⟩
   refine At.eff R (jx R R (ja R) 0 R (Sub.self kSegment) ty_39 (ja R)) ?_
   rintro _ _ ⟨rfl, rfl⟩
   refine At.done (At.vg ?_)
   refine At.weaken [1, 0] R [(2, (.eq (.pointer (some ⟨g1, 0, none⟩)))), (3, (.eq (.pointer (some ⟨g2, 0, none⟩))))] ⟨R, R, trivial⟩ (At.reach ⟨t1, s1, hF, R, R⟩)
  ·replace hF := W.ite_f hb11 hF
   refine At.skip (At.vg ?_)
   refine At.weaken [1, 0] R [(2, (.eq (.pointer (some ⟨g1, 0, none⟩)))), (3, (.eq (.pointer (some ⟨g2, 0, none⟩))))] ⟨R, R, trivial⟩ (At.reach ⟨s1, t1, hF, R, R⟩)
 ·rintro _ _ ⟨x1, x2, hF, rfl, rfl⟩
  unfold geom_online.c1 at hF
  refine At.seq (At.seq (At.region (At.does R R R R (je (ja R) fa_39_0) ?_)))
  refine At.does R R R R (jc (ja R) 0 R vz ty_37) ?_
  refine At.does R R R R (je (ja R) fa_39_1) ?_
  refine At.does R R R R (jc (ja R) 0 R Ja ty_37) ?_
  refine At.does R R R R (jk (ja R) (ja R) (bin_eq eqty_37)) ?_
  refine At.done (At.vg ?_)
  refine At.cond (ja R) (fun hb2 => ?_) (fun hb2 => ?_)
  ·replace hF := W.ite_t hb2 hF
   refine At.seq (At.block (At.seq (At.region (At.does R R R R (jc (ja R) 1 R (Sub.self kSegment) ty_39) ?_))))
   refine At.does R R R R (je (ja R) fa_39_0) ?_
   refine At.does R R R R (jc (ja R) 0 R vz ty_37) ?_
   replace hF := W.vl hF
   refine At.eff R (jn R R jp (jq R en_93 (jf (ja R) (jf (ja R) jg))) (geom_On.ok hF) (by rintro _ _ ⟨r, _, rfl, _⟩; exact vk)) ?_
   rintro _ _ ⟨_, _, ⟨r1, hF, rfl, rfl⟩, rfl, rfl⟩
   refine At.does R R R R (does_not (ja R)) ?_
   refine At.does R R R R (jd (x := (.tv kBool (!r1))) (ja R)) ?_
   refine At.done (At.vg ?_)
   refine At.cond (ja R) (fun hb3 => ?_) (fun hb3 => ?_)
   ·replace hF := W.ite_t hb3 hF
    refine At.seq (At.region (At.does R R R R (jd (x := (.tv (kInt .i64) (0 : Int))) (ji _ _)) ?_))
    refine At.done (At.vg (At.ret ?_))
    refine At.block_ret ?_
    refine At.vh (At.vh ?_)
    exact At.ret_1 rfl (rv_tmp rfl) [] rfl ⟨(0 : Int), hF, rfl, rfl⟩
   ·replace hF := W.ite_f hb3 hF
    refine At.seq (At.region (At.does R R R R (je (ja R) fa_39_0) ?_))
    refine At.does R R R R (jc (ja R) 0 R vz ty_37) ?_
    refine At.does R R R R (je (ja R) fa_39_0) ?_
    refine At.does R R R R (jc (ja R) 1 R vz ty_37) ?_
    refine At.does R R R R (jk (ja R) (ja R) (bin_eq eqty_37)) ?_
    refine At.does R R R R (jb (x := (.tv kBool (eq_Point x1.A x2.A))) (ja R)) ?_
    refine At.vi R R R R (jv R) R (fun hg1 => (je (ja R) fa_39_0)) ?_
    refine At.vi R R R R (jv R) R (fun hg2 => (jc (jh R hg2) 0 R vz ty_37)) ?_
    refine At.vi R R R R (jv R) R (fun hg3 => (je (ja R) fa_39_1)) ?_
    refine At.vi R R R R (jv R) R (fun hg4 => (jc (jh R hg4) 1 R Ja ty_37)) ?_
    refine At.vi R R R R (jv R) R (fun hg5 => (jk (jh R hg5) (jh R hg5) (bin_eq eqty_37))) ?_
    refine At.does R R R R (jm (ja R) (jl _) (ja R) pick_or) ?_
    refine At.does R R R R (jd (x := (.tv kBool ((eq_Point x1.A x2.A) || (eq_Point x1.A x2.B)))) (ja R)) ?_
    refine At.done (At.vg ?_)
    refine At.cond (ja R) (fun hb4 => ?_) (fun hb4 => ?_)
    ·replace hF := W.ite_t hb4 hF
     refine At.seq (At.region (At.does R R R R (jd (x := (.tv (kInt .i64) (1 : Int))) (ji _ _)) ?_))
     refine At.done (At.vg (At.ret ?_))
     refine At.block_ret ?_
     refine At.vh (At.vh ?_)
     exact At.ret_1 rfl (rv_tmp rfl) [] rfl ⟨(1 : Int), hF, rfl, rfl⟩
    ·replace hF := W.ite_f hb4 hF
     refine At.skip ?_
     refine At.block_normal ?_
     refine At.vg (At.seq (At.region (At.does R R R R (jd (x := (.tv (kInt .i64) (2 : Int))) (ji _ _)) ?_)))
     refine At.done (At.vg (At.ret (At.vh ?_)))
     exact At.ret_1 rfl (rv_tmp rfl) [] rfl ⟨(2 : Int), hF, rfl, rfl⟩
  ·replace hF := W.ite_f hb2 hF
   refine At.skip (At.vg ?_)
   refine At.cut (fun rs L => ∃ (x3 : Point) (g9 : Nat) (x4 : Point) (g10 : Nat), geom_online.c2 x2 x3 x4 Q ∧ rs = [.box g2 39 kSegment x2, .box g9 37 kPoint x3, .box g10 37 kPoint x4] ∧ L = mkL [(3, (.eq (.pointer (some ⟨g2, 0, none⟩)))), (5, (.eq (.pointer (some ⟨g9, 0, none⟩)))), (6, (.eq (.pointer (some ⟨g10, 0, none⟩))))]) ?_ ?_
   ·refine At.draw mixed [0, 1] R [[], []] (fun φ w hgd => ?_)
    refine AtH.take [0, 1] hgd 0 R R R R (D' := #[Y,N,N,N,N,N,N,N]) (by kernel_rfl) (fun _ _ _ _ h => h) R (je (ja R) fa_39_0) ?_
    refine AtH.take [0, 1] hgd 1 R R R R (D' := #[Y,Y,N,N,N,N,N,N]) (by kernel_rfl) (fun _ _ _ _ h => h) R (jc (ja R) 0 R vz ty_37) ?_
    refine AtH.take [0, 1] hgd 2 R R R R (D' := #[Y,Y,Y,N,N,N,N,N]) (by kernel_rfl) (fun _ _ _ _ h => h) R (je (ja R) fa_39_1) ?_
    refine AtH.take [0, 1] hgd 3 R R R R (D' := #[Y,Y,Y,Y,N,N,N,N]) (by kernel_rfl) (fun _ _ _ _ h => h) R (jc (ja R) 0 R Ja ty_37) ?_
    refine AtH.all2 4 5 (by kernel_rfl) ?_ ?_
    ·refine AtH.eff [(0, 0), (1, 1)] R R R R R R (eff_alloc R R R tz_37) (D' := #[Y,Y,Y,Y,Y,N,N,N]) (by kernel_rfl) (by kernel_rfl) ?_
     rintro _ _ ⟨g13, rfl, rfl⟩
     refine ⟨_, .inr ⟨R, flat_eq⟩, ?_⟩
     refine AtH.all1 5 (by kernel_rfl) ?_
     refine AtH.eff [(0, 1), (1, 2)] R R R R R R (eff_alloc R R R tz_37) (D' := #[Y,Y,Y,Y,Y,Y,N,N]) (by kernel_rfl) (by kernel_rfl) ?_
     rintro _ _ ⟨g14, rfl, rfl⟩
     refine ⟨_, .inr ⟨R, flat_eq⟩, ?_⟩
     refine AtH.all1 6 (by kernel_rfl) ?_
     refine AtH.eff0 [(0, 2), (1, 3)] R R R R R (jx R R (ja R) 1 R (Sub.self kPoint) ty_37 (ja R)) (D' := #[Y,Y,Y,Y,Y,Y,Y,N]) (by kernel_rfl) (by kernel_rfl) ?_
     rintro _ _ ⟨rfl, rfl⟩
     refine AtH.all1 7 (by kernel_rfl) ?_
     refine AtH.eff0 [(0, 2), (1, 3)] R R R R R (jx R R (ja R) 0 R (Sub.self kPoint) ty_37 (ja R)) (D' := #[Y,Y,Y,Y,Y,Y,Y,Y]) (by kernel_rfl) (by kernel_rfl) ?_
     rintro _ _ ⟨rfl, rfl⟩
     refine AtH.done (by kernel_rfl) ?_
     refine At.vg ?_
     refine At.weaken [3, 1, 0] R [(3, (.eq (.pointer (some ⟨g2, 0, none⟩)))), (5, (.eq (.pointer (some ⟨g13, 0, none⟩)))), (6, (.eq (.pointer (some ⟨g14, 0, none⟩))))] ⟨R, R, R, trivial⟩ (At.reach ⟨x1.A, g13, x1.B, g14, hF, R, R⟩)
    ·refine AtH.eff [(0, 0), (1, 1)] R R R R R R (eff_alloc R R R tz_37) (D' := #[Y,Y,Y,Y,N,Y,N,N]) (by kernel_rfl) (by kernel_rfl) ?_
     rintro _ _ ⟨g15, rfl, rfl⟩
     refine ⟨_, .inr ⟨R, flat_eq⟩, ?_⟩
     refine AtH.all1 4 (by kernel_rfl) ?_
     refine AtH.eff [(0, 1), (1, 2)] R R R R R R (eff_alloc R R R tz_37) (D' := #[Y,Y,Y,Y,Y,Y,N,N]) (by kernel_rfl) (by kernel_rfl) ?_
     rintro _ _ ⟨g16, rfl, rfl⟩
     refine ⟨_, .inr ⟨R, flat_eq⟩, ?_⟩
     refine AtH.all1 6 (by kernel_rfl) ?_
     refine AtH.eff0 [(0, 2), (1, 3)] R R R R R (jx R R (ja R) 0 R (Sub.self kPoint) ty_37 (ja R)) (D' := #[Y,Y,Y,Y,Y,Y,Y,N]) (by kernel_rfl) (by kernel_rfl) ?_
     rintro _ _ ⟨rfl, rfl⟩
     refine AtH.all1 7 (by kernel_rfl) ?_
     refine AtH.eff0 [(0, 2), (1, 3)] R R R R R (jx R R (ja R) 1 R (Sub.self kPoint) ty_37 (ja R)) (D' := #[Y,Y,Y,Y,Y,Y,Y,Y]) (by kernel_rfl) (by kernel_rfl) ?_
     rintro _ _ ⟨rfl, rfl⟩
     refine AtH.done (by kernel_rfl) ?_
     refine At.vg ?_
     refine At.weaken [3, 0, 1] R [(3, (.eq (.pointer (some ⟨g2, 0, none⟩)))), (5, (.eq (.pointer (some ⟨g16, 0, none⟩)))), (6, (.eq (.pointer (some ⟨g15, 0, none⟩))))] ⟨R, R, R, trivial⟩ (At.reach ⟨x1.A, g16, x1.B, g15, hF, R, R⟩)
   ·rintro _ _ ⟨x3, g9, x4, g10, hF, rfl, rfl⟩
    unfold geom_online.c2 at hF
    refine At.cut (fun rs L => ∃ (x5 : Point), geom_online.c3 x2 x4 x5 Q ∧ rs = [.box g2 39 kSegment x2, .box g9 37 kPoint x5, .box g10 37 kPoint x4] ∧ L = mkL [(3, (.eq (.pointer (some ⟨g2, 0, none⟩)))), (5, (.eq (.pointer (some ⟨g9, 0, none⟩)))), (6, (.eq (.pointer (some ⟨g10, 0, none⟩))))]) ?_ ?_
    ·refine At.seq (At.region (At.does R R R R (je (ja R) fa_39_0) ?_))
     refine At.does R R R R (jc (ja R) 0 R vz ty_37) ?_
     refine At.does R R R R (jc (ja R) 1 R (Sub.self kPoint) ty_37) ?_
     replace hF := W.vl hF
     refine At.eff R (jn R R jp (jq R en_89 (jf (ja R) (jf (ja R) jg))) (geom_Compare.ok hF) (by rintro _ _ ⟨r, _, rfl, _⟩; exact flat_int)) ?_
     rintro _ _ ⟨_, _, ⟨r6, hF, rfl, rfl⟩, rfl, rfl⟩
     refine At.does R R R R (jk (ja R) (ji _ _) bin_gtr) ?_
     refine At.done (At.vg ?_)
     refine At.cond (ja R) (fun hb10 => ?_) (fun hb10 => ?_)
     ·replace hF := W.ite_t hb10 hF
      refine At.region (At.does R R R R (je (ja R) fa_39_0) ?_)
      refine At.does R R R R (jc (ja R) 0 R vz ty_37) ?_
      refine At.eff R (jx R R (ja R) 1 R (Sub.self kPoint) ty_37 (ja R)) ?_
      rintro _ _ ⟨rfl, rfl⟩
      refine At.done (At.vg ?_)
      refine At.weaken [0, 1, 2] R [(3, (.eq (.pointer (some ⟨g2, 0, none⟩)))), (5, (.eq (.pointer (some ⟨g9, 0, none⟩)))), (6, (.eq (.pointer (some ⟨g10, 0, none⟩))))] ⟨R, R, R, trivial⟩ (At.reach ⟨x2.A, hF, R, R⟩)
     ·replace hF := W.ite_f hb10 hF
      refine At.skip (At.vg ?_)
      refine At.weaken [0, 1, 2] R [(3, (.eq (.pointer (some ⟨g2, 0, none⟩)))), (5, (.eq (.pointer (some ⟨g9, 0, none⟩)))), (6, (.eq (.pointer (some ⟨g10, 0, none⟩))))] ⟨R, R, R, trivial⟩ (At.reach ⟨x3, hF, R, R⟩)
    ·rintro _ _ ⟨x5, hF, rfl, rfl⟩
     unfold geom_online.c3 at hF
     refine At.cut (fun rs L => ∃ (x6 : Point), geom_online.c4 x5 x6 Q ∧ rs = [.box g9 37 kPoint x5, .box g10 37 kPoint x6] ∧ L = mkL [(5, (.eq (.pointer (some ⟨g9, 0, none⟩)))), (6, (.eq (.pointer (some ⟨g10, 0, none⟩))))]) ?_ ?_
     ·refine At.seq (At.region (At.does R R R R (je (ja R) fa_39_1) ?_))
      refine At.does R R R R (jc (ja R) 0 R Ja ty_37) ?_
      refine At.does R R R R (jc (ja R) 2 R (Sub.self kPoint) ty_37) ?_
      replace hF := W.vl hF
      refine At.eff R (jn R R jp (jq R en_89 (jf (ja R) (jf (ja R) jg))) (geom_Compare.ok hF) (by rintro _ _ ⟨r, _, rfl, _⟩; exact flat_int)) ?_
      rintro _ _ ⟨_, _, ⟨r5, hF, rfl, rfl⟩, rfl, rfl⟩
      refine At.does R R R R (jk (ja R) (ji _ _) vc) ?_
      refine At.done (At.vg ?_)
      refine At.cond (ja R) (fun hb9 => ?_) (fun hb9 => ?_)
      ·replace hF := W.ite_t hb9 hF
       refine At.region (At.does R R R R (je (ja R) fa_39_1) ?_)
       refine At.does R R R R (jc (ja R) 0 R Ja ty_37) ?_
       refine At.eff R (jx R R (ja R) 2 R (Sub.self kPoint) ty_37 (ja R)) ?_
       rintro _ _ ⟨rfl, rfl⟩
       refine At.done (At.vg ?_)
       refine At.weaken [1, 2] R [(5, (.eq (.pointer (some ⟨g9, 0, none⟩)))), (6, (.eq (.pointer (some ⟨g10, 0, none⟩))))] ⟨R, R, trivial⟩ (At.reach ⟨x2.B, hF, R, R⟩)
      ·replace hF := W.ite_f hb9 hF
       refine At.skip (At.vg ?_)
       refine At.weaken [1, 2] R [(5, (.eq (.pointer (some ⟨g9, 0, none⟩)))), (6, (.eq (.pointer (some ⟨g10, 0, none⟩))))] ⟨R, R, trivial⟩ (At.reach ⟨x4, hF, R, R⟩)
     ·rintro _ _ ⟨x6, hF, rfl, rfl⟩
      unfold geom_online.c4 at hF
      refine At.seq (At.seq (At.region (At.does R R R R (jc (ja R) 0 R (Sub.self kPoint) ty_37) ?_)))
      refine At.does R R R R (jc (ja R) 1 R (Sub.self kPoint) ty_37) ?_
      replace hF := W.vl hF
      refine At.eff R (jn R R jp (jq R en_89 (jf (ja R) (jf (ja R) jg))) (geom_Compare.ok hF) (by rintro _ _ ⟨r, _, rfl, _⟩; exact flat_int)) ?_
      rintro _ _ ⟨_, _, ⟨r4, hF, rfl, rfl⟩, rfl, rfl⟩
      refine At.done (At.vg (At.block (At.seq (At.region (At.does R R R R (jk (ja R) (ji _ _) bin_eql) ?_)))))
      refine At.does R R R R (jd (x := (.tv kBool (r4 == (-1 : Int)))) (ja R)) ?_
      refine At.done (At.vg ?_)
      refine At.cond (ja R) (fun hb7 => ?_) (fun hb7 => ?_)
      ·replace hF := W.ite_t hb7 hF
       refine At.seq (At.region (At.does R R R R (jd (x := (.tv (kInt .i64) (5 : Int))) (ji _ _)) ?_))
       refine At.done (At.vg (At.ret ?_))
       refine At.block_ret ?_
       refine At.vh ?_
       exact At.ret_1 rfl (rv_tmp rfl) [] rfl ⟨(5 : Int), hF, rfl, rfl⟩
      ·replace hF := W.ite_f hb7 hF
       refine At.seq (At.region (At.does R R R R (jk (ja R) (ji _ _) bin_eql) ?_))
       refine At.does R R R R (jd (x := (.tv kBool (r4 == (0 : Int)))) (ja R)) ?_
       refine At.done (At.vg ?_)
       refine At.cond (ja R) (fun hb8 => ?_) (fun hb8 => ?_)
       ·replace hF := W.ite_t hb8 hF
        refine At.seq (At.region (At.does R R R R (jd (x := (.tv (kInt .i64) (1 : Int))) (ji _ _)) ?_))
        refine At.done (At.vg (At.ret ?_))
        refine At.block_ret ?_
        refine At.vh ?_
        exact At.ret_1 rfl (rv_tmp rfl) [] rfl ⟨(1 : Int), hF, rfl, rfl⟩
       ·replace hF := W.ite_f hb8 hF
        refine At.skip ?_
        refine At.block_normal ?_
        refine At.vg (At.seq (At.region (At.does R R R R (jd (x := (.tv (kInt .i64) (0 : Int))) (ji _ _)) ?_)))
        refine At.done (At.vg (At.ret ?_))
        exact At.ret_1 rfl (rv_tmp rfl) [] rfl ⟨(0 : Int), hF, rfl, rfl⟩
def geom_Meets.c1 (x1 : Segment) (x2 : Segment) : W Int := W.ite (eq_Segment x1 x2) (W.ret (4 : Int)) (W.bind (W.ite (!((eq_Point x1.A x1.B) || (eq_Point x2.A x2.B))) (geom_Orient.F x1.A x1.B x2.A) (W.ret (0 : Int))) (fun r4 => W.bind (W.ite ((!((eq_Point x1.A x1.B) || (eq_Point x2.A x2.B))) && (r4 == (0 : Int))) (geom_Orient.F x1.A x1.B x2.B) (W.ret (0 : Int))) (fun r5 => W.ite (((eq_Point x1.A x1.B) || (eq_Point x2.A x2.B)) || ((r4 == (0 : Int)) && (r5 == (0 : Int)))) (W.bind (geom_online.F x1 x2) (fun r6 => W.ret r6)) (W.bind (geom_Orient.F x1.A x1.B x2.A) (fun r7 => W.bind (geom_Orient.F x1.A x1.B x2.B) (fun r8 => W.bind (geom_Orient.F x2.A x2.B x1.A) (fun r9 => W.bind (geom_Orient.F x2.A x2.B x1.B) (fun r10 => W.ite ((decide ((0 : Int) < (w64 (r7 * r8)))) || (decide ((0 : Int) < (w64 (r9 * r10))))) (W.ret (0 : Int)) (W.ite ((decide ((w64 (r7 * r8)) < (0 : Int))) && (decide ((w64 (r9 * r10)) < (0 : Int)))) (W.ret (3 : Int)) (W.ite (((w64 (r7 * r8)) == (0 : Int)) && ((w64 (r9 * r10)) == (0 : Int))) (W.ret (1 : Int)) (W.ret (2 : Int))))))))))))
def geom_Meets.F (s1 : Segment) (t1 : Segment) : W Int := W.bind (geom_near.F ([s1.A, s1.B, t1.A, t1.B] : List Point)) (fun r1 => W.ite (!r1) (W.ret (0 : Int)) (W.bind (geom_sorted.F s1) (fun r11 => W.bind (geom_sorted.F t1) (fun r12 => (geom_Meets.c1) r11 r12))))
theorem geom_Meets.ok {s1 : Segment} {t1 : Segment} {Q : Int → Prop} (hF : geom_Meets.F s1 t1 Q) : Con Tryz.prog 23 [.tv kSegment s1, .tv kSegment t1] [] (fun ta rs' => ∃ (r : Int), Q r ∧ ta = .tv (kInt .i64) r ∧ rs' = []) := by
 refine Con.intro' Tryz.func23 Tryz.ntmps23 R R (fun C => ?_)
 unfold geom_Meets.F at hF
 refine At.seq (At.region (At.eff R (jw R R R (ja R)) ?_))
 rintro _ _ ⟨g1, rfl, rfl⟩
 refine At.eff R (jw R R R (ja R)) ?_
 rintro _ _ ⟨g2, rfl, rfl⟩
 refine At.does R R R R (jd (x := (.tv (kInt .i64) (0 : Int))) (ji _ _)) ?_
 refine At.done (At.vg (At.seq (At.seq (At.region (At.does R R R R (je (ja R) fa_39_0) ?_)))))
 refine At.does R R R R (jc (ja R) 1 R vz ty_37) ?_
 refine At.does R R R R (je (ja R) fa_39_1) ?_
 refine At.does R R R R (jc (ja R) 1 R Ja ty_37) ?_
 refine At.does R R R R (je (ja R) fa_39_0) ?_
 refine At.does R R R R (jc (ja R) 0 R vz ty_37) ?_
 refine At.does R R R R (je (ja R) fa_39_1) ?_
 refine At.does R R R R (jc (ja R) 0 R Ja ty_37) ?_
 refine At.eff R (eff_lit R R R (os := [.tmp 10, .tmp 12, .tmp 14, .tmp 16]) R sl_68 (xs := ([s1.A, s1.B, t1.A, t1.B] : List Point)) (jf (ja R) (jf (ja R) (jf (ja R) (jf (ja R) jg)))) R R) ?_
 rintro _ _ ⟨v1, rfl, rfl⟩
 replace hF := W.vl hF
 refine At.eff R (jn R R (lends_row 0 17 R R jp) (jq R en_54 (jf (ja R) jg)) (geom_near.ok hF) (by rintro _ _ ⟨r, _, rfl, _⟩; exact vk)) ?_
 rintro _ _ ⟨_, _, ⟨r1, hF, rfl, rfl⟩, rfl, rfl⟩
 refine At.does R R R R (does_not (ja R)) ?_
 refine At.done (At.vg ?_)
 refine At.cond (ja R) (fun hb1 => ?_) (fun hb1 => ?_)
 ·replace hF := W.ite_t hb1 hF
  refine At.seq (At.region (At.does R R R R (jd (x := (.tv (kInt .i64) (0 : Int))) (ji _ _)) ?_))
  refine At.done (At.vg (At.ret (At.vh ?_)))
  exact At.ret_1 rfl (rv_tmp rfl) [] rfl ⟨(0 : Int), hF, rfl, rfl⟩
 ·replace hF := W.ite_f hb1 hF
  refine At.skip (At.vg ?_)
  refine At.cut (fun rs L => ∃ (x1 : Segment) (x2 : Segment), geom_Meets.c1 x1 x2 Q ∧ rs = [.box g1 39 kSegment x1, .box g2 39 kSegment x2] ∧ L = mkL [(2, (.eq (.pointer (some ⟨g1, 0, none⟩)))), (3, (.eq (.pointer (some ⟨g2, 0, none⟩))))]) ?_ ?_
  ·refine At.draw mixed [0, 1, 2] R [[], [5], [4]] (fun φ w hgd => ?_)
   replace hF := W.vl hF
   refine AtH.take [0, 1, 2] hgd 0 R R R R (D' := #[Y,N,N,N,N,N]) (by kernel_rfl) (fun _ _ _ _ h => h) R (jc (ja R) 2 R (Sub.self kSegment) ty_39) ?_
   refine AtH.take [0, 1] hgd 2 R R R R (D' := #[Y,N,Y,N,N,N]) (by kernel_rfl) (fun _ _ _ _ h => h) R (jc (ja R) 1 R (Sub.self kSegment) ty_39) ?_
   refine AtH.all1 1 (by kernel_rfl) ?_
   refine AtH.eff [(0, 0), (1, 1), (2, 2)] R R R R R R (jn R R jp (jq R en_55 (jf (ja R) jg)) (geom_sorted.ok hF) (by rintro _ _ ⟨r, _, rfl, _⟩; exact (flat_tv flat_Segment))) (D' := #[Y,Y,Y,N,N,N]) (by kernel_rfl) (by kernel_rfl) ?_
   rintro _ _ ⟨_, _, ⟨r11, hF, rfl, rfl⟩, rfl, rfl⟩
   refine ⟨_, .inr ⟨R, (flat_tv flat_Segment)⟩, ?_⟩
   replace hF := W.vl hF
   refine AtH.all1 3 (by kernel_rfl) ?_
   refine AtH.eff [(0, 0), (1, 1), (2, 2)] R R R R R R (jn R R jp (jq R en_55 (jf (ja R) jg)) (geom_sorted.ok hF) (by rintro _ _ ⟨r, _, rfl, _⟩; exact (flat_tv flat_Segment))) (D' := #[Y,Y,Y,Y,N,N]) (by kernel_rfl) (by kernel_rfl) ?_
   rintro _ _ ⟨_, _, ⟨r12, hF, rfl, rfl⟩, rfl, rfl⟩
   refine ⟨_, .inr ⟨R, (flat_tv flat_Segment)⟩, ?_⟩
   refine AtH.all1 4 (by kernel_rfl) ?_
   refine AtH.eff0 [(0, 0), (1, 1)] R R R R R (jx R R (ja R) 2 R (Sub.self kSegment) ty_39 (ja R)) (D' := #[Y,Y,Y,Y,Y,N]) (by kernel_rfl) (by kernel_rfl) ?_
   rintro _ _ ⟨rfl, rfl⟩
   refine AtH.all1 5 (by kernel_rfl) ?_
   refine AtH.eff0 [(0, 0)] R R R R R (jx R R (ja R) 1 R (Sub.self kSegment) ty_39 (ja R)) (D' := #[Y,Y,Y,Y,Y,Y]) (by kernel_rfl) (by kernel_rfl) ?_
   rintro _ _ ⟨rfl, rfl⟩
   refine AtH.done (by kernel_rfl) ?_
   refine At.vg ?_
   refine At.weaken [2, 1] R [(2, (.eq (.pointer (some ⟨g1, 0, none⟩)))), (3, (.eq (.pointer (some ⟨g2, 0, none⟩))))] ⟨R, R, trivial⟩ (At.reach ⟨r11, r12, hF, R, R⟩)
  ·rintro _ _ ⟨x1, x2, hF, rfl, rfl⟩
   unfold geom_Meets.c1 at hF
   refine At.seq (At.block (At.seq (At.region (At.does R R R R (jc (ja R) 0 R (Sub.self kSegment) ty_39) ?_))))
   refine At.does R R R R (jc (ja R) 1 R (Sub.self kSegment) ty_39) ?_
   refine At.does R R R R (jk (ja R) (ja R) (bin_eq eqty_39)) ?_
   refine At.does R R R R (jd (x := (.tv kBool (eq_Segment x1 x2))) (ja R)) ?_
   refine At.done (At.vg ?_)
   refine At.cond (ja R) (fun hb2 => ?_) (fun hb2 => ?_)
   ·replace hF := W.ite_t hb2 hF
    refine At.seq (At.region (At.does R R R R (jd (x := (.tv (kInt .i64) (4 : Int))) (ji _ _)) ?_))
    refine At.done (At.vg (At.ret ?_))
    refine At.block_ret ?_
    refine At.vh ?_
    exact At.ret_1 rfl (rv_tmp rfl) [] rfl ⟨(4 : Int), hF, rfl, rfl⟩
   ·replace hF := W.ite_f hb2 hF
    refine At.seq (At.region (At.does R R R R (je (ja R) fa_39_0) ?_))
    refine At.does R R R R (jc (ja R) 0 R vz ty_37) ?_
    refine At.does R R R R (je (ja R) fa_39_1) ?_
    refine At.does R R R R (jc (ja R) 0 R Ja ty_37) ?_
    refine At.does R R R R (jk (ja R) (ja R) (bin_eq eqty_37)) ?_
    refine At.does R R R R (jb (x := (.tv kBool (eq_Point x1.A x1.B))) (ja R)) ?_
    refine At.vi R R R R (jv R) R (fun hg1 => (je (ja R) fa_39_0)) ?_
    refine At.vi R R R R (jv R) R (fun hg2 => (jc (jh R hg2) 1 R vz ty_37)) ?_
    refine At.vi R R R R (jv R) R (fun hg3 => (je (ja R) fa_39_1)) ?_
    refine At.vi R R R R (jv R) R (fun hg4 => (jc (jh R hg4) 1 R Ja ty_37)) ?_
    refine At.vi R R R R (jv R) R (fun hg5 => (jk (jh R hg5) (jh R hg5) (bin_eq eqty_37))) ?_
    refine At.does R R R R (jm (ja R) (jl _) (ja R) pick_or) ?_
    refine At.does R R R R (jb (x := (.tv kBool ((eq_Point x1.A x1.B) || (eq_Point x2.A x2.B)))) (ja R)) ?_
    refine At.vi R R R R (jv R) R (fun hg6 => (je (ja R) fa_39_0)) ?_
    refine At.vi R R R R (jv R) R (fun hg7 => (jc (jh R hg7) 0 R vz ty_37)) ?_
    refine At.vi R R R R (jv R) R (fun hg8 => (je (ja R) fa_39_1)) ?_
    refine At.vi R R R R (jv R) R (fun hg9 => (jc (jh R hg9) 0 R Ja ty_37)) ?_
    refine At.vi R R R R (jv R) R (fun hg10 => (je (ja R) fa_39_0)) ?_
    refine At.vi R R R R (jv R) R (fun hg11 => (jc (jh R hg11) 1 R vz ty_37)) ?_
    replace hF := W.vl hF
    refine At.effG R R R R (jv R) hF (fun r => .tv (kInt .i64) r) (fun hg12 hF => eff_of (jn R R jp (jq R en_56 (jf (jh R hg12) (jf (jh R hg12) (jf (jh R hg12) jg)))) (geom_Orient.ok hF) (by rintro _ _ ⟨r, _, rfl, _⟩; exact flat_int)) (by rintro _ _ ⟨_, _, ⟨r, hF, rfl, rfl⟩, rfl, rfl⟩; exact ⟨r, hF, R, R⟩)) (fun r4 hF => ?_)
    refine At.vi R R R R (jv R) R (fun hg13 => (jk (jh R hg13) (ji _ _) bin_eql)) ?_
    refine At.vi R R R R (jv R) R (fun hg14 => (jb (x := (.tv kBool (r4 == (0 : Int)))) (jh R hg14))) ?_
    refine At.vi R R R R (jt R) R (fun hg15 => (je (ja R) fa_39_0)) ?_
    refine At.vi R R R R (jt R) R (fun hg16 => (jc (jh R hg16) 0 R vz ty_37)) ?_
    refine At.vi R R R R (jt R) R (fun hg17 => (je (ja R) fa_39_1)) ?_
    refine At.vi R R R R (jt R) R (fun hg18 => (jc (jh R hg18) 0 R Ja ty_37)) ?_
    refine At.vi R R R R (jt R) R (fun hg19 => (je (ja R) fa_39_1)) ?_
    refine At.vi R R R R (jt R) R (fun hg20 => (jc (jh R hg20) 1 R Ja ty_37)) ?_
    replace hF := W.vl hF
    refine At.effG R R R R (jt R) hF (fun r => .tv (kInt .i64) r) (fun hg21 hF => eff_of (jn R R jp (jq R en_56 (jf (jh R hg21) (jf (jh R hg21) (jf (jh R hg21) jg)))) (geom_Orient.ok hF) (by rintro _ _ ⟨r, _, rfl, _⟩; exact flat_int)) (by rintro _ _ ⟨_, _, ⟨r, hF, rfl, rfl⟩, rfl, rfl⟩; exact ⟨r, hF, R, R⟩)) (fun r5 hF => ?_)
    refine At.vi R R R R (jt R) R (fun hg22 => (jk (jh R hg22) (ji _ _) bin_eql)) ?_
    refine At.vi R R R R (jv R) R (fun hg23 => (jm (jh R hg23) (ja R) (jl _) (pick_andG (and_of hg23)))) ?_
    refine At.does R R R R (jm (ja R) (jl _) (ja R) pick_or) ?_
    refine At.does R R R R (jd (x := (.tv kBool (((eq_Point x1.A x1.B) || (eq_Point x2.A x2.B)) || ((r4 == (0 : Int)) && (r5 == (0 : Int)))))) (ja R)) ?_
    refine At.done (At.vg ?_)
    refine At.cond (ja R) (fun hb3 => ?_) (fun hb3 => ?_)
    ·replace hF := W.ite_t hb3 hF
     refine At.seq (At.region (At.does R R R R (jc (ja R) 0 R (Sub.self kSegment) ty_39) ?_))
     refine At.does R R R R (jc (ja R) 1 R (Sub.self kSegment) ty_39) ?_
     replace hF := W.vl hF
     refine At.eff R (jn R R jp (jq R en_57 (jf (ja R) (jf (ja R) jg))) (geom_online.ok hF) (by rintro _ _ ⟨r, _, rfl, _⟩; exact flat_int)) ?_
     rintro _ _ ⟨_, _, ⟨r6, hF, rfl, rfl⟩, rfl, rfl⟩
     refine At.does R R R R (jd (x := (.tv (kInt .i64) r6)) (ja R)) ?_
     refine At.done (At.vg (At.ret ?_))
     refine At.block_ret ?_
     refine At.vh ?_
     exact At.ret_1 rfl (rv_tmp rfl) [] rfl ⟨r6, hF, rfl, rfl⟩
    ·replace hF := W.ite_f hb3 hF
     refine At.skip ?_
     refine At.block_normal ?_
     refine At.vg (At.seq ?_)
     refine At.draw mixed [0, 1] R [[], []] (fun φ w hgd => ?_)
     replace hF := W.vl hF
     refine AtH.take [0, 1] hgd 0 R R R R (D' := #[Y,N,N,N,N,N,N,N,N,N,N,N,N,N,N,N]) (by kernel_rfl) (fun _ _ _ _ h => h) R (je (ja R) fa_39_0) ?_
     refine AtH.take [0, 1] hgd 1 R R R R (D' := #[Y,Y,N,N,N,N,N,N,N,N,N,N,N,N,N,N]) (by kernel_rfl) (fun _ _ _ _ h => h) R (jc (ja R) 0 R vz ty_37) ?_
     refine AtH.take [0, 1] hgd 2 R R R R (D' := #[Y,Y,Y,N,N,N,N,N,N,N,N,N,N,N,N,N]) (by kernel_rfl) (fun _ _ _ _ h => h) R (je (ja R) fa_39_1) ?_
     refine AtH.take [0, 1] hgd 3 R R R R (D' := #[Y,Y,Y,Y,N,N,N,N,N,N,N,N,N,N,N,N]) (by kernel_rfl) (fun _ _ _ _ h => h) R (jc (ja R) 0 R Ja ty_37) ?_
     refine AtH.take [0, 1] hgd 4 R R R R (D' := #[Y,Y,Y,Y,Y,N,N,N,N,N,N,N,N,N,N,N]) (by kernel_rfl) (fun _ _ _ _ h => h) R (je (ja R) fa_39_0) ?_
     refine AtH.take [0, 1] hgd 5 R R R R (D' := #[Y,Y,Y,Y,Y,Y,N,N,N,N,N,N,N,N,N,N]) (by kernel_rfl) (fun _ _ _ _ h => h) R (jc (ja R) 1 R vz ty_37) ?_
     refine AtH.take [0, 1] hgd 7 R R R R (D' := #[Y,Y,Y,Y,Y,Y,N,Y,N,N,N,N,N,N,N,N]) (by kernel_rfl) (fun _ _ _ _ h => h) R (je (ja R) fa_39_0) ?_
     refine AtH.take [0, 1] hgd 8 R R R R (D' := #[Y,Y,Y,Y,Y,Y,N,Y,Y,N,N,N,N,N,N,N]) (by kernel_rfl) (fun _ _ _ _ h => h) R (jc (ja R) 0 R vz ty_37) ?_
     refine AtH.take [0, 1] hgd 9 R R R R (D' := #[Y,Y,Y,Y,Y,Y,N,Y,Y,Y,N,N,N,N,N,N]) (by kernel_rfl) (fun _ _ _ _ h => h) R (je (ja R) fa_39_1) ?_
     refine AtH.take [0, 1] hgd 10 R R R R (D' := #[Y,Y,Y,Y,Y,Y,N,Y,Y,Y,Y,N,N,N,N,N]) (by kernel_rfl) (fun _ _ _ _ h => h) R (jc (ja R) 0 R Ja ty_37) ?_
     refine AtH.take [0, 1] hgd 11 R R R R (D' := #[Y,Y,Y,Y,Y,Y,N,Y,Y,Y,Y,Y,N,N,N,N]) (by kernel_rfl) (fun _ _ _ _ h => h) R (je (ja R) fa_39_1) ?_
     refine AtH.take [0, 1] hgd 12 R R R R (D' := #[Y,Y,Y,Y,Y,Y,N,Y,Y,Y,Y,Y,Y,N,N,N]) (by kernel_rfl) (fun _ _ _ _ h => h) R (jc (ja R) 1 R Ja ty_37) ?_
     refine AtH.all1 6 (by kernel_rfl) ?_
     refine AtH.eff [(0, 0), (1, 1)] R R R R R R (jn R R jp (jq R en_56 (jf (ja R) (jf (ja R) (jf (ja R) jg)))) (geom_Orient.ok hF) (by rintro _ _ ⟨r, _, rfl, _⟩; exact flat_int)) (D' := #[Y,Y,Y,Y,Y,Y,Y,Y,Y,Y,Y,Y,Y,N,N,N]) (by kernel_rfl) (by kernel_rfl) ?_
     rintro _ _ ⟨_, _, ⟨r7, hF, rfl, rfl⟩, rfl, rfl⟩
     refine ⟨_, .inr ⟨R, flat_int⟩, ?_⟩
     replace hF := W.vl hF
     refine AtH.all1 13 (by kernel_rfl) ?_
     refine AtH.eff [(0, 0), (1, 1)] R R R R R R (jn R R jp (jq R en_56 (jf (ja R) (jf (ja R) (jf (ja R) jg)))) (geom_Orient.ok hF) (by rintro _ _ ⟨r, _, rfl, _⟩; exact flat_int)) (D' := #[Y,Y,Y,Y,Y,Y,Y,Y,Y,Y,Y,Y,Y,Y,N,N]) (by kernel_rfl) (by kernel_rfl) ?_
     rintro _ _ ⟨_, _, ⟨r8, hF, rfl, rfl⟩, rfl, rfl⟩
     refine ⟨_, .inr ⟨R, flat_int⟩, ?_⟩
     refine AtH.take [0, 1] hgd 14 R R R R (D' := #[Y,Y,Y,Y,Y,Y,Y,Y,Y,Y,Y,Y,Y,Y,Y,N]) (by kernel_rfl) (fun _ _ _ _ h => h) R (jd (x := (.tv (kInt .i64) r7)) (ja R)) ?_
     refine AtH.take [0, 1] hgd 15 R R R R (D' := #[Y,Y,Y,Y,Y,Y,Y,Y,Y,Y,Y,Y,Y,Y,Y,Y]) (by kernel_rfl) (fun _ _ _ _ h => h) R (jd (x := (.tv (kInt .i64) r8)) (ja R)) ?_
     refine AtH.done (by kernel_rfl) ?_
     refine At.vg (At.seq ?_)
     refine At.draw mixed [0, 1] R [[], []] (fun φ w hgd => ?_)
     replace hF := W.vl hF
     refine AtH.take [0, 1] hgd 0 R R R R (D' := #[Y,N,N,N,N,N,N,N,N,N,N,N,N,N,N,N]) (by kernel_rfl) (fun _ _ _ _ h => h) R (je (ja R) fa_39_0) ?_
     refine AtH.take [0, 1] hgd 1 R R R R (D' := #[Y,Y,N,N,N,N,N,N,N,N,N,N,N,N,N,N]) (by kernel_rfl) (fun _ _ _ _ h => h) R (jc (ja R) 1 R vz ty_37) ?_
     refine AtH.take [0, 1] hgd 2 R R R R (D' := #[Y,Y,Y,N,N,N,N,N,N,N,N,N,N,N,N,N]) (by kernel_rfl) (fun _ _ _ _ h => h) R (je (ja R) fa_39_1) ?_
     refine AtH.take [0, 1] hgd 3 R R R R (D' := #[Y,Y,Y,Y,N,N,N,N,N,N,N,N,N,N,N,N]) (by kernel_rfl) (fun _ _ _ _ h => h) R (jc (ja R) 1 R Ja ty_37) ?_
     refine AtH.take [0, 1] hgd 4 R R R R (D' := #[Y,Y,Y,Y,Y,N,N,N,N,N,N,N,N,N,N,N]) (by kernel_rfl) (fun _ _ _ _ h => h) R (je (ja R) fa_39_0) ?_
     refine AtH.take [0, 1] hgd 5 R R R R (D' := #[Y,Y,Y,Y,Y,Y,N,N,N,N,N,N,N,N,N,N]) (by kernel_rfl) (fun _ _ _ _ h => h) R (jc (ja R) 0 R vz ty_37) ?_
     refine AtH.take [0, 1] hgd 7 R R R R (D' := #[Y,Y,Y,Y,Y,Y,N,Y,N,N,N,N,N,N,N,N]) (by kernel_rfl) (fun _ _ _ _ h => h) R (je (ja R) fa_39_0) ?_
     refine AtH.take [0, 1] hgd 8 R R R R (D' := #[Y,Y,Y,Y,Y,Y,N,Y,Y,N,N,N,N,N,N,N]) (by kernel_rfl) (fun _ _ _ _ h => h) R (jc (ja R) 1 R vz ty_37) ?_
     refine AtH.take [0, 1] hgd 9 R R R R (D' := #[Y,Y,Y,Y,Y,Y,N,Y,Y,Y,N,N,N,N,N,N]) (by kernel_rfl) (fun _ _ _ _ h => h) R (je (ja R) fa_39_1) ?_
     refine AtH.take [0, 1] hgd 10 R R R R (D' := #[Y,Y,Y,Y,Y,Y,N,Y,Y,Y,Y,N,N,N,N,N]) (by kernel_rfl) (fun _ _ _ _ h => h) R (jc (ja R) 1 R Ja ty_37) ?_
     refine AtH.take [0, 1] hgd 11 R R R R (D' := #[Y,Y,Y,Y,Y,Y,N,Y,Y,Y,Y,Y,N,N,N,N]) (by kernel_rfl) (fun _ _ _ _ h => h) R (je (ja R) fa_39_1) ?_
     refine AtH.take [0, 1] hgd 12 R R R R (D' := #[Y,Y,Y,Y,Y,Y,N,Y,Y,Y,Y,Y,Y,N,N,N]) (by kernel_rfl) (fun _ _ _ _ h => h) R (jc (ja R) 0 R Ja ty_37) ?_
     refine AtH.all1 6 (by kernel_rfl) ?_
     refine AtH.eff [(0, 0), (1, 1)] R R R R R R (jn R R jp (jq R en_56 (jf (ja R) (jf (ja R) (jf (ja R) jg)))) (geom_Orient.ok hF) (by rintro _ _ ⟨r, _, rfl, _⟩; exact flat_int)) (D' := #[Y,Y,Y,Y,Y,Y,Y,Y,Y,Y,Y,Y,Y,N,N,N]) (by kernel_rfl) (by kernel_rfl) ?_
     rintro _ _ ⟨_, _, ⟨r9, hF, rfl, rfl⟩, rfl, rfl⟩
     refine ⟨_, .inr ⟨R, flat_int⟩, ?_⟩
     replace hF := W.vl hF
     refine AtH.all1 13 (by kernel_rfl) ?_
     refine AtH.eff [(0, 0), (1, 1)] R R R R R R (jn R R jp (jq R en_56 (jf (ja R) (jf (ja R) (jf (ja R) jg)))) (geom_Orient.ok hF) (by rintro _ _ ⟨r, _, rfl, _⟩; exact flat_int)) (D' := #[Y,Y,Y,Y,Y,Y,Y,Y,Y,Y,Y,Y,Y,Y,N,N]) (by kernel_rfl) (by kernel_rfl) ?_
     rintro _ _ ⟨_, _, ⟨r10, hF, rfl, rfl⟩, rfl, rfl⟩
     refine ⟨_, .inr ⟨R, flat_int⟩, ?_⟩
     refine AtH.take [0, 1] hgd 14 R R R R (D' := #[Y,Y,Y,Y,Y,Y,Y,Y,Y,Y,Y,Y,Y,Y,Y,N]) (by kernel_rfl) (fun _ _ _ _ h => h) R (jd (x := (.tv (kInt .i64) r9)) (ja R)) ?_
     refine AtH.take [0, 1] hgd 15 R R R R (D' := #[Y,Y,Y,Y,Y,Y,Y,Y,Y,Y,Y,Y,Y,Y,Y,Y]) (by kernel_rfl) (fun _ _ _ _ h => h) R (jd (x := (.tv (kInt .i64) r10)) (ja R)) ?_
     refine AtH.done (by kernel_rfl) ?_
     refine At.vg (At.seq (At.block (At.seq (At.region (At.does R R R R (jb (x := (.tv (kInt .i64) r7)) (ja R)) ?_)))))
     refine At.does R R R R (jb (x := (.tv (kInt .i64) r8)) (ja R)) ?_
     refine At.does R R R R (jk (ja R) (ja R) bin_mul) ?_
     refine At.does R R R R (jk (ja R) (ji _ _) bin_gtr) ?_
     refine At.does R R R R (jb (x := (.tv kBool (decide ((0 : Int) < (w64 (r7 * r8)))))) (ja R)) ?_
     refine At.vi R R R R (jv R) R (fun hg24 => (jb (x := (.tv (kInt .i64) r9)) (ja R))) ?_
     refine At.vi R R R R (jv R) R (fun hg25 => (jb (x := (.tv (kInt .i64) r10)) (ja R))) ?_
     refine At.vi R R R R (jv R) R (fun hg26 => (jk (jh R hg26) (jh R hg26) bin_mul)) ?_
     refine At.vi R R R R (jv R) R (fun hg27 => (jk (jh R hg27) (ji _ _) bin_gtr)) ?_
     refine At.does R R R R (jm (ja R) (jl _) (ja R) pick_or) ?_
     refine At.does R R R R (jd (x := (.tv kBool ((decide ((0 : Int) < (w64 (r7 * r8)))) || (decide ((0 : Int) < (w64 (r9 * r10))))))) (ja R)) ?_
     refine At.done (At.vg ?_)
     refine At.cond (ja R) (fun hb4 => ?_) (fun hb4 => ?_)
     ·replace hF := W.ite_t hb4 hF
      refine At.seq (At.region (At.does R R R R (jd (x := (.tv (kInt .i64) (0 : Int))) (ji _ _)) ?_))
      refine At.done (At.vg (At.ret ?_))
      refine At.block_ret ?_
      refine At.vh ?_
      exact At.ret_1 rfl (rv_tmp rfl) [] rfl ⟨(0 : Int), hF, rfl, rfl⟩
     ·replace hF := W.ite_f hb4 hF
      refine At.seq (At.region (At.does R R R R (jb (x := (.tv (kInt .i64) r7)) (ja R)) ?_))
      refine At.does R R R R (jb (x := (.tv (kInt .i64) r8)) (ja R)) ?_
      refine At.does R R R R (jk (ja R) (ja R) bin_mul) ?_
      refine At.does R R R R (jk (ja R) (ji _ _) vc) ?_
      refine At.does R R R R (jb (x := (.tv kBool (decide ((w64 (r7 * r8)) < (0 : Int))))) (ja R)) ?_
      refine At.vi R R R R (ju R) R (fun hg28 => (jb (x := (.tv (kInt .i64) r9)) (ja R))) ?_
      refine At.vi R R R R (ju R) R (fun hg29 => (jb (x := (.tv (kInt .i64) r10)) (ja R))) ?_
      refine At.vi R R R R (ju R) R (fun hg30 => (jk (jh R hg30) (jh R hg30) bin_mul)) ?_
      refine At.vi R R R R (ju R) R (fun hg31 => (jk (jh R hg31) (ji _ _) vc)) ?_
      refine At.does R R R R (jm (ja R) (ja R) (jl _) vd) ?_
      refine At.does R R R R (jd (x := (.tv kBool ((decide ((w64 (r7 * r8)) < (0 : Int))) && (decide ((w64 (r9 * r10)) < (0 : Int)))))) (ja R)) ?_
      refine At.done (At.vg ?_)
      refine At.cond (ja R) (fun hb5 => ?_) (fun hb5 => ?_)
      ·replace hF := W.ite_t hb5 hF
       refine At.seq (At.region (At.does R R R R (jd (x := (.tv (kInt .i64) (3 : Int))) (ji _ _)) ?_))
       refine At.done (At.vg (At.ret ?_))
       refine At.block_ret ?_
       refine At.vh ?_
       exact At.ret_1 rfl (rv_tmp rfl) [] rfl ⟨(3 : Int), hF, rfl, rfl⟩
      ·replace hF := W.ite_f hb5 hF
       refine At.seq (At.region (At.does R R R R (jb (x := (.tv (kInt .i64) r7)) (ja R)) ?_))
       refine At.does R R R R (jb (x := (.tv (kInt .i64) r8)) (ja R)) ?_
       refine At.does R R R R (jk (ja R) (ja R) bin_mul) ?_
       refine At.does R R R R (jk (ja R) (ji _ _) bin_eql) ?_
       refine At.does R R R R (jb (x := (.tv kBool ((w64 (r7 * r8)) == (0 : Int)))) (ja R)) ?_
       refine At.vi R R R R (ju R) R (fun hg32 => (jb (x := (.tv (kInt .i64) r9)) (ja R))) ?_
       refine At.vi R R R R (ju R) R (fun hg33 => (jb (x := (.tv (kInt .i64) r10)) (ja R))) ?_
       refine At.vi R R R R (ju R) R (fun hg34 => (jk (jh R hg34) (jh R hg34) bin_mul)) ?_
       refine At.vi R R R R (ju R) R (fun hg35 => (jk (jh R hg35) (ji _ _) bin_eql)) ?_
       refine At.does R R R R (jm (ja R) (ja R) (jl _) vd) ?_
       refine At.does R R R R (jd (x := (.tv kBool (((w64 (r7 * r8)) == (0 : Int)) && ((w64 (r9 * r10)) == (0 : Int))))) (ja R)) ?_
       refine At.done (At.vg ?_)
       refine At.cond (ja R) (fun hb6 => ?_) (fun hb6 => ?_)
       ·replace hF := W.ite_t hb6 hF
        refine At.seq (At.region (At.does R R R R (jd (x := (.tv (kInt .i64) (1 : Int))) (ji _ _)) ?_))
        refine At.done (At.vg (At.ret ?_))
        refine At.block_ret ?_
        refine At.vh ?_
        exact At.ret_1 rfl (rv_tmp rfl) [] rfl ⟨(1 : Int), hF, rfl, rfl⟩
       ·replace hF := W.ite_f hb6 hF
        refine At.skip ?_
        refine At.block_normal ?_
        refine At.vg (At.seq (At.region (At.does R R R R (jd (x := (.tv (kInt .i64) (2 : Int))) (ji _ _)) ?_)))
        refine At.done (At.vg (At.ret ?_))
        exact At.ret_1 rfl (rv_tmp rfl) [] rfl ⟨(2 : Int), hF, rfl, rfl⟩
def border_Free_1__p.c1 (t3 : Bool) : W Bool := W.ite t3 (W.ret true) (W.ret false)
def border_Free_1__p.F (t1 : Segment) (t2 : Segment) : W Bool := W.bind (geom_Meets.F t1 t2) (fun r1 => W.ite (r1 == (2 : Int)) ((border_Free_1__p.c1) (r1 == (2 : Int))) (W.ite (r1 == (3 : Int)) ((border_Free_1__p.c1) (r1 == (3 : Int))) ((border_Free_1__p.c1) (r1 == (5 : Int)))))
theorem border_Free_1__p.ok {t1 : Segment} {t2 : Segment} {Q : Bool → Prop} (hF : border_Free_1__p.F t1 t2 Q) : Con Tryz.prog 46 [.tv kSegment t1, .ptr kSegment t2] [] (fun ta rs' => ∃ (r : Bool), Q r ∧ ta = .tv kBool r ∧ rs' = []) := by
 refine Con.intro' Tryz.func46 Tryz.ntmps46 R R (fun C => ?_)
 unfold border_Free_1__p.F at hF
 refine At.seq (At.region (At.eff R (jw R R R (ja R)) ?_))
 rintro _ _ ⟨g1, rfl, rfl⟩
 refine At.does R R R R (jd (x := (.tv kBool false)) (jl _)) ?_
 refine At.done (At.vg (At.seq (At.seq (At.region (At.does R R R R (jc (ja R) 0 R (Sub.self kSegment) ty_39) ?_)))))
 refine At.does R R R R (vp (K := kSegment) (ja R) ty_39) ?_
 replace hF := W.vl hF
 refine At.eff R (jn R R jp (jq R en_23 (jf (ja R) (jf (ja R) jg))) (geom_Meets.ok hF) (by rintro _ _ ⟨r, _, rfl, _⟩; exact flat_int)) ?_
 rintro _ _ ⟨_, _, ⟨r1, hF, rfl, rfl⟩, rfl, rfl⟩
 refine At.done (At.vg (At.block ?_))
 refine At.cut (fun rs L => ∃ (t3 : Bool), border_Free_1__p.c1 t3 Q ∧ rs = [] ∧ L = mkL [(7, (.tv kBool t3))]) ?_ ?_
 ·refine At.seq (At.region (At.does R R R R (jk (ja R) (ji _ _) bin_eql) ?_))
  refine At.does R R R R (jd (x := (.tv kBool (r1 == (2 : Int)))) (ja R)) ?_
  refine At.done (At.vg ?_)
  refine At.cond (ja R) (fun hb4 => ?_) (fun hb4 => ?_)
  ·replace hF := W.ite_t hb4 hF
   refine At.skip (At.vg ?_)
   refine At.weaken [] R [(7, (.tv kBool (r1 == (2 : Int))))] ⟨R, trivial⟩ (At.reach ⟨(r1 == (2 : Int)), hF, R, R⟩)
  ·replace hF := W.ite_f hb4 hF
   refine At.seq (At.region (At.does R R R R (jk (ja R) (ji _ _) bin_eql) ?_))
   refine At.does R R R R (jd (x := (.tv kBool (r1 == (3 : Int)))) (ja R)) ?_
   refine At.done (At.vg ?_)
   refine At.cond (ja R) (fun hb5 => ?_) (fun hb5 => ?_)
   ·replace hF := W.ite_t hb5 hF
    refine At.skip (At.vg ?_)
    refine At.weaken [] R [(7, (.tv kBool (r1 == (3 : Int))))] ⟨R, trivial⟩ (At.reach ⟨(r1 == (3 : Int)), hF, R, R⟩)
   ·replace hF := W.ite_f hb5 hF
    refine At.region (At.does R R R R (jk (ja R) (ji _ _) bin_eql) ?_)
    refine At.does R R R R (jd (x := (.tv kBool (r1 == (5 : Int)))) (ja R)) ?_
    refine At.done (At.vg ?_)
    refine At.weaken [] R [(7, (.tv kBool (r1 == (5 : Int))))] ⟨R, trivial⟩ (At.reach ⟨(r1 == (5 : Int)), hF, R, R⟩)
 ·rintro _ _ ⟨t3, hF, rfl, rfl⟩
  unfold border_Free_1__p.c1 at hF
  refine At.cond (ja R) (fun hb3 => ?_) (fun hb3 => ?_)
  ·replace hF := W.ite_t hb3 hF
   refine At.seq (At.region (At.does R R R R (jd (x := (.tv kBool true)) (jl _)) ?_))
   refine At.done (At.vg (At.ret ?_))
   refine At.block_ret ?_
   refine At.vh ?_
   exact At.ret_1 rfl (rv_tmp rfl) [] rfl ⟨true, hF, rfl, rfl⟩
  ·replace hF := W.ite_f hb3 hF
   refine At.skip ?_
   refine At.block_normal ?_
   refine At.vg (At.seq (At.region (At.does R R R R (jd (x := (.tv kBool false)) (jl _)) ?_)))
   refine At.done (At.vg (At.ret ?_))
   exact At.ret_1 rfl (rv_tmp rfl) [] rfl ⟨false, hF, rfl, rfl⟩
def vq.c1 : W Int := W.ret (-1 : Int)
def vq.l1 (s1 : (List Segment)) (c1 : Segment) (K1 : W Int) (A1 : Int → W Int) (t6 : Int) : W Int := W.ite (decide (t6 < (s1.length : Int))) (W.req (0 ≤ t6 ∧ t6 < (s1.length : Int)) (W.bind (border_Free_1__p.F (rd zSegment s1 t6) c1) (fun r5 => W.ite r5 (W.ret t6) (A1 (w64 (t6 + (1 : Int))))))) (K1)
def vq.F (s1 : (List Segment)) (c1 : Segment) : W Int := W.ex fun n => W.iter1 (vq.l1 s1 c1 (vq.c1)) n (0 : Int)
theorem vq.ok {s1 : (List Segment)} {c1 : Segment} {Q : Int → Prop} (hF : vq.F s1 c1 Q) : Con Tryz.prog 74 [.tv (kSlice kSegment) s1, .cls 46 0 (tupl [.ptr kSegment c1])] [] (fun ta rs' => ∃ (r : Int), Q r ∧ ta = .tv (kInt .i64) r ∧ rs' = []) := by
 refine Con.intro' Tryz.func74 Tryz.ntmps74 R R (fun C => ?_)
 unfold vq.F at hF
 refine At.seq (At.region (At.does R R R R (jd (x := (.tv (kInt .i64) (0 : Int))) (ji _ _)) ?_))
 refine At.done (At.vg ?_)
 refine At.cut (fun rs L => ∃ _ : Unit, vq.c1 Q ∧ rs = [] ∧ L = mkL []) ?_ ?_
 ·refine At.seq (At.region (At.does R R R R (jb (x := (.tv (kSlice kSegment) s1)) (ja R)) ?_))
  refine At.does R R R R (js (ja R) Tryz.underlying27) ?_
  refine At.does R R R R (jb (x := (.tv (kInt .i64) (0 : Int))) (ji _ _)) ?_
  refine At.done (At.vg (At.block ?_))
  obtain ⟨n1, hF⟩ := hF
  refine At.weaken [] R [(0, (.tv (kSlice kSegment) s1)), (1, (.cls 46 0 (tupl [(.ptr kSegment c1)]))), (7, (.tv (kInt .i64) (s1.length : Int))), (8, (.tv (kInt .i64) (0 : Int)))] ⟨R, R, R, R, trivial⟩ ?_
  refine At.loop (fun m rs L => ∃ (t6 : Int), W.iter1 (vq.l1 s1 c1 (vq.c1)) m t6 Q ∧ rs = [] ∧ L = mkL [(0, (.tv (kSlice kSegment) s1)), (1, (.cls 46 0 (tupl [(.ptr kSegment c1)]))), (7, (.tv (kInt .i64) (s1.length : Int))), (8, (.tv (kInt .i64) t6))]) ?_ ?_ (m := n1) ⟨(0 : Int), hF, R, R⟩
  ·rintro rs L ⟨_, hF, _, _⟩; exact hF
  ·rintro m1 _ _ ⟨t6, hF, rfl, rfl⟩
   replace hF := W.iter1_s hF
   unfold vq.l1 at hF
   refine At.seq (At.region (At.does R R R R (jk (ja R) (ja R) vc) ?_))
   refine At.done (At.vg (At.seq ?_))
   refine At.cond (ja R) (fun hb9 => ?_) (fun hb9 => ?_)
   ·replace hF := W.ite_t hb9 hF
    refine At.skip (At.vg (At.seq (At.block (At.seq (At.region (At.does R R R R (jb (x := (.tv (kInt .i64) t6)) (ja R)) ?_))))))
    refine At.does R R R R (jd (x := (.tv (kInt .i64) t6)) (ja R)) ?_
    refine At.done (At.vg (At.seq (At.region (At.does R R R R (jb (x := (.cls 46 0 (tupl [(.ptr kSegment c1)]))) (ja R)) ?_))))
    refine At.does R R R R (jb (x := (.tv (kSlice kSegment) s1)) (ja R)) ?_
    refine At.does R R R R (jb (x := (.tv (kInt .i64) t6)) (ja R)) ?_
    obtain ⟨hq5, hF⟩ := hF
    refine At.does R R R R (ve zSegment (ja R) (ja R) Tryz.underlying27 ty_39 hq5) ?_
    refine At.does R R R R (vp (K := kSegment) (ja R) ty_39) ?_
    replace hF := W.vl hF
    refine At.eff R (jn R R jp (ent_val0 R (ja R) en_46 (jf (ja R) jg)) (border_Free_1__p.ok hF) (by rintro _ _ ⟨r, _, rfl, _⟩; exact vk)) ?_
    rintro _ _ ⟨_, _, ⟨r5, hF, rfl, rfl⟩, rfl, rfl⟩
    refine At.done (At.vg ?_)
    refine At.cond (ja R) (fun hb10 => ?_) (fun hb10 => ?_)
    ·replace hF := W.ite_t hb10 hF
     refine At.seq (At.region (At.does R R R R (jb (x := (.tv (kInt .i64) t6)) (ja R)) ?_))
     refine At.does R R R R (jd (x := (.tv (kInt .i64) t6)) (ja R)) ?_
     refine At.done (At.vg (At.ret ?_))
     refine At.block_ret ?_
     refine At.vh (At.vh ?_)
     refine At.block_ret ?_
     refine At.vh ?_
     exact At.ret_1 rfl (rv_tmp rfl) [] rfl ⟨t6, hF, rfl, rfl⟩
    ·replace hF := W.ite_f hb10 hF
     refine At.skip ?_
     refine At.block_normal ?_
     refine At.vg (At.region (At.does R R R R (jk (ja R) (ji _ _) jz) ?_))
     refine At.does R R R R (jb (x := (.tv (kInt .i64) (w64 (t6 + (1 : Int))))) (ja R)) ?_
     refine At.done (At.vg ?_)
     refine At.weaken [] R [(0, (.tv (kSlice kSegment) s1)), (1, (.cls 46 0 (tupl [(.ptr kSegment c1)]))), (7, (.tv (kInt .i64) (s1.length : Int))), (8, (.tv (kInt .i64) (w64 (t6 + (1 : Int)))))] ⟨R, R, R, R, trivial⟩ (At.reach ⟨(w64 (t6 + (1 : Int))), hF, R, R⟩)
   ·replace hF := W.ite_f hb9 hF
    refine At.exit ?_
    refine At.then_exit (At.then_exit ?_)
    refine At.block_here ?_
    refine At.vg ?_
    refine At.weaken [] R [] trivial (At.reach ⟨(), hF, R, R⟩)
 ·rintro _ _ ⟨_, hF, rfl, rfl⟩
  unfold vq.c1 at hF
  refine At.seq (At.region (At.does R R R R (jd (x := (.tv (kInt .i64) (-1 : Int))) (ji _ _)) ?_))
  refine At.done (At.vg (At.ret ?_))
  exact At.ret_1 rfl (rv_tmp rfl) [] rfl ⟨(-1 : Int), hF, rfl, rfl⟩
def Ji.F (s1 : (List Segment)) (c1 : Segment) : W Bool := W.bind (vq.F s1 c1) (fun r1 => W.ret (decide ((0 : Int) ≤ r1)))
theorem Ji.ok {s1 : (List Segment)} {c1 : Segment} {Q : Bool → Prop} (hF : Ji.F s1 c1 Q) : Con Tryz.prog 45 [.tv (kSlice kSegment) s1, .cls 46 0 (tupl [.ptr kSegment c1])] [] (fun ta rs' => ∃ (r : Bool), Q r ∧ ta = .tv kBool r ∧ rs' = []) := by
 refine Con.intro' Tryz.func45 Tryz.ntmps45 R R (fun C => ?_)
 unfold Ji.F at hF
 refine At.seq (At.region (At.does R R R R (jd (x := (.tv kBool false)) (jl _)) ?_))
 refine At.done (At.vg (At.seq (At.region (At.does R R R R (jb (x := (.tv (kSlice kSegment) s1)) (ja R)) ?_))))
 refine At.does R R R R (jb (x := (.cls 46 0 (tupl [(.ptr kSegment c1)]))) (ja R)) ?_
 replace hF := W.vl hF
 refine At.eff R (jn R R jp (jq R en_74 (jf (ja R) (jf (ja R) jg))) (vq.ok hF) (by rintro _ _ ⟨r, _, rfl, _⟩; exact flat_int)) ?_
 rintro _ _ ⟨_, _, ⟨r1, hF, rfl, rfl⟩, rfl, rfl⟩
 refine At.does R R R R (jk (ja R) (ji _ _) bin_geq) ?_
 refine At.does R R R R (jd (x := (.tv kBool (decide ((0 : Int) ≤ r1)))) (ja R)) ?_
 refine At.done (At.vg (At.ret ?_))
 exact At.ret_1 rfl (rv_tmp rfl) [] rfl ⟨(decide ((0 : Int) ≤ r1)), hF, rfl, rfl⟩
def border_Free.F (m1 : Map) (s1 : Segment) : W Bool := W.bind (border_of.F m1) (fun r1 => W.ite (((!r1.2) || (decide ((iMin [s1.A.X, s1.A.Y, s1.B.X, s1.B.Y]) < (-2097152 : Int)))) || (decide ((2097152 : Int) < (iMax [s1.A.X, s1.A.Y, s1.B.X, s1.B.Y])))) (W.ret false) (W.bind (vv.F r1.1) (fun r2 => W.bind (Jd.F r1.1 r2) (fun r3 => W.bind (Ji.F r3 s1) (fun r4 => W.ret (!r4))))))
theorem border_Free.ok {m1 : Map} {s1 : Segment} {Q : Bool → Prop} (hF : border_Free.F m1 s1 Q) : Con Tryz.prog 18 [.tv kMap m1, .tv kSegment s1] [] (fun ta rs' => ∃ (r : Bool), Q r ∧ ta = .tv kBool r ∧ rs' = []) := by
 refine Con.intro' Tryz.func18 Tryz.ntmps18 R R (fun C => ?_)
 unfold border_Free.F at hF
 refine At.seq (At.region (At.eff R (jw R R R (ja R)) ?_))
 rintro _ _ ⟨g1, rfl, rfl⟩
 refine At.eff R (jw R R R (ja R)) ?_
 rintro _ _ ⟨g2, rfl, rfl⟩
 refine At.does R R R R (jd (x := (.tv kBool false)) (jl _)) ?_
 refine At.done (At.vg (At.seq (At.region (At.does R R R R (jc (ja R) 1 R (Sub.self kMap) ty_24) ?_))))
 replace hF := W.vl hF
 refine At.eff R (jo R R (jq R en_30 (jf (ja R) jg)) [] R (border_of.ok hF)) ?_
 rintro _ _ ⟨_, _, ⟨r1, hF, rfl, rfl⟩, rfl, rfl⟩
 refine At.does R R R R (jb (x := (.tup2 (.tv kborder_parcel r1.1) (.tv kBool r1.2))) (ja R)) ?_
 refine At.does R R R R (does_extract20 (ja R)) ?_
 refine At.does R R R R (does_extract21 (ja R)) ?_
 refine At.eff R (eff_alloc R R R tz_76) ?_
 rintro _ _ ⟨g3, rfl, rfl⟩
 refine At.eff R (jx R R (ja R) 0 R (Sub.self kborder_parcel) ty_76 (ja R)) ?_
 rintro _ _ ⟨rfl, rfl⟩
 refine At.does R R R R (jd (x := (.tv kBool r1.2)) (ja R)) ?_
 refine At.done (At.vg (At.seq (At.seq (At.region (At.does R R R R (jb (x := (.tv kBool r1.2)) (ja R)) ?_)))))
 refine At.does R R R R (does_not (ja R)) ?_
 refine At.does R R R R (jb (x := (.tv kBool (!r1.2))) (ja R)) ?_
 refine At.vi R R R R (jv R) R (fun hg1 => (je (ja R) fa_39_0)) ?_
 refine At.vi R R R R (jv R) R (fun hg2 => (je (jh R hg2) fa_37_0)) ?_
 refine At.vi R R R R (jv R) R (fun hg3 => (jc (jh R hg3) 1 R sub_Segment_0_0 ty_3)) ?_
 refine At.vi R R R R (jv R) R (fun hg4 => (je (ja R) fa_39_0)) ?_
 refine At.vi R R R R (jv R) R (fun hg5 => (je (jh R hg5) fa_37_1)) ?_
 refine At.vi R R R R (jv R) R (fun hg6 => (jc (jh R hg6) 1 R sub_Segment_0_1 ty_3)) ?_
 refine At.vi R R R R (jv R) R (fun hg7 => (je (ja R) fa_39_1)) ?_
 refine At.vi R R R R (jv R) R (fun hg8 => (je (jh R hg8) fa_37_0)) ?_
 refine At.vi R R R R (jv R) R (fun hg9 => (jc (jh R hg9) 1 R sub_Segment_1_0 ty_3)) ?_
 refine At.vi R R R R (jv R) R (fun hg10 => (je (ja R) fa_39_1)) ?_
 refine At.vi R R R R (jv R) R (fun hg11 => (je (jh R hg11) fa_37_1)) ?_
 refine At.vi R R R R (jv R) R (fun hg12 => (jc (jh R hg12) 1 R sub_Segment_1_1 ty_3)) ?_
 refine At.vi R R R R (jv R) R (fun hg13 => (does_mins (n := s1.A.X) (ns := [s1.A.Y, s1.B.X, s1.B.Y]) (jf (jh R hg13) (jf (jh R hg13) (jf (jh R hg13) (jf (jh R hg13) jg)))))) ?_
 refine At.vi R R R R (jv R) R (fun hg14 => (jk (jh R hg14) (ji _ _) vc)) ?_
 refine At.does R R R R (jm (ja R) (jl _) (ja R) pick_or) ?_
 refine At.does R R R R (jb (x := (.tv kBool ((!r1.2) || (decide ((iMin [s1.A.X, s1.A.Y, s1.B.X, s1.B.Y]) < (-2097152 : Int)))))) (ja R)) ?_
 refine At.vi R R R R (jv R) R (fun hg15 => (je (ja R) fa_39_0)) ?_
 refine At.vi R R R R (jv R) R (fun hg16 => (je (jh R hg16) fa_37_0)) ?_
 refine At.vi R R R R (jv R) R (fun hg17 => (jc (jh R hg17) 1 R sub_Segment_0_0 ty_3)) ?_
 refine At.vi R R R R (jv R) R (fun hg18 => (je (ja R) fa_39_0)) ?_
 refine At.vi R R R R (jv R) R (fun hg19 => (je (jh R hg19) fa_37_1)) ?_
 refine At.vi R R R R (jv R) R (fun hg20 => (jc (jh R hg20) 1 R sub_Segment_0_1 ty_3)) ?_
 refine At.vi R R R R (jv R) R (fun hg21 => (je (ja R) fa_39_1)) ?_
 refine At.vi R R R R (jv R) R (fun hg22 => (je (jh R hg22) fa_37_0)) ?_
 refine At.vi R R R R (jv R) R (fun hg23 => (jc (jh R hg23) 1 R sub_Segment_1_0 ty_3)) ?_
 refine At.vi R R R R (jv R) R (fun hg24 => (je (ja R) fa_39_1)) ?_
 refine At.vi R R R R (jv R) R (fun hg25 => (je (jh R hg25) fa_37_1)) ?_
 refine At.vi R R R R (jv R) R (fun hg26 => (jc (jh R hg26) 1 R sub_Segment_1_1 ty_3)) ?_
 refine At.vi R R R R (jv R) R (fun hg27 => (does_maxs (n := s1.A.X) (ns := [s1.A.Y, s1.B.X, s1.B.Y]) (jf (jh R hg27) (jf (jh R hg27) (jf (jh R hg27) (jf (jh R hg27) jg)))))) ?_
 refine At.vi R R R R (jv R) R (fun hg28 => (jk (jh R hg28) (ji _ _) bin_gtr)) ?_
 refine At.does R R R R (jm (ja R) (jl _) (ja R) pick_or) ?_
 refine At.done (At.vg ?_)
 refine At.cond (ja R) (fun hb1 => ?_) (fun hb1 => ?_)
 ·replace hF := W.ite_t hb1 hF
  refine At.seq (At.region (At.does R R R R (jd (x := (.tv kBool false)) (jl _)) ?_))
  refine At.done (At.vg (At.ret (At.vh ?_)))
  exact At.ret_1 rfl (rv_tmp rfl) [] rfl ⟨false, hF, rfl, rfl⟩
 ·replace hF := W.ite_f hb1 hF
  refine At.skip (At.vg (At.seq ?_))
  refine At.draw mixed [0, 1, 2] R [[], [], []] (fun φ w hgd => ?_)
  replace hF := W.vl hF
  refine AtH.take [0, 1, 2] hgd 0 R R R R (D' := #[Y,N,N,N,N,N,N,N]) (by kernel_rfl) (fun _ _ _ _ h => h) R (jc (ja R) 0 R (Sub.self kborder_parcel) ty_76) ?_
  refine AtH.take [0, 1, 2] hgd 1 R R R R (D' := #[Y,Y,N,N,N,N,N,N]) (by kernel_rfl) (fun _ _ _ _ h => h) R (jc (ja R) 0 R (Sub.self kborder_parcel) ty_76) ?_
  refine AtH.take [0, 1, 2] hgd 4 R R R R (D' := #[Y,Y,N,N,Y,N,N,N]) (by kernel_rfl) (fun _ _ _ _ h => h) R (does_cls (firsts := []) (caps := [.tmp 3]) R (jf (ja R) jg)) ?_
  refine AtH.all1 2 (by kernel_rfl) ?_
  refine AtH.eff [(0, 0), (1, 1), (2, 2)] R R R R R R (jo R R (jq R en_31 (jf (ja R) jg)) [] R (vv.ok hF)) (D' := #[Y,Y,Y,N,Y,N,N,N]) (by kernel_rfl) (by kernel_rfl) ?_
  rintro _ _ ⟨_, _, ⟨r2, v3, hF, rfl, rfl⟩, rfl, rfl⟩
  refine ⟨.any, .inl R, ?_⟩
  replace hF := W.vl hF
  refine AtH.all1 3 (by kernel_rfl) ?_
  refine AtH.freeze 0 48 R R ?_
  refine AtH.eff [(0, 1), (1, 2), (2, 3)] R R R R R R (jo R R (jq R en_32 (jf (ja R) (jf (ja R) jg))) [] R (Jd.ok hF)) (D' := #[Y,Y,Y,Y,Y,N,N,N]) (by kernel_rfl) (by kernel_rfl) ?_
  rintro _ _ ⟨_, _, ⟨r3, v4, hF, rfl, rfl⟩, rfl, rfl⟩
  refine ⟨.any, .inl R, ?_⟩
  replace hF := W.vl hF
  refine AtH.all1 5 (by kernel_rfl) ?_
  refine AtH.eff [(0, 2), (1, 3), (2, 4)] R R R R R R (jn R R (lends_row 0 49 R R (lends_box 3 50 R R (lend1_cls (lend1_here lend1_ptr)) jp)) (jq R en_45 (jf (ja R) (jf (ja R) jg))) (Ji.ok hF) (by rintro _ _ ⟨r, _, rfl, _⟩; exact vk)) (D' := #[Y,Y,Y,Y,Y,Y,N,N]) (by kernel_rfl) (by kernel_rfl) ?_
  rintro _ _ ⟨_, _, ⟨r4, hF, rfl, rfl⟩, rfl, rfl⟩
  refine ⟨_, .inr ⟨R, vk⟩, ?_⟩
  refine AtH.take [0, 1, 2] hgd 6 R R R R (D' := #[Y,Y,Y,Y,Y,Y,Y,N]) (by kernel_rfl) (fun _ _ _ _ h => h) R (does_not (ja R)) ?_
  refine AtH.take [0, 1, 2] hgd 7 R R R R (D' := #[Y,Y,Y,Y,Y,Y,Y,Y]) (by kernel_rfl) (fun _ _ _ _ h => h) R (jd (x := (.tv kBool (!r4))) (ja R)) ?_
  refine AtH.done (by kernel_rfl) ?_
  refine At.vg (At.ret ?_)
  exact At.ret_1 rfl (rv_tmp rfl) [] rfl ⟨(!r4), hF, rfl, rfl⟩
def border_Check_1__b.F (a1 : ByteArray) (b1 : ByteArray) (t1 : (List ((ByteArray × ByteArray) × Bool))) : W (List ((ByteArray × ByteArray) × Bool)) := W.ret (mset ((sMin a1 b1), (sMax a1 b1)) true t1)
theorem border_Check_1__b.ok {a1 : ByteArray} {b1 : ByteArray} {t1 : (List ((ByteArray × ByteArray) × Bool))} {g1 : Nat} {g2 : Nat} {Q : (List ((ByteArray × ByteArray) × Bool)) → Prop} (hF : border_Check_1__b.F a1 b1 t1 Q) : Con Tryz.prog 34 [.tv kStr a1, .tv kStr b1, .eq (.pointer (some ⟨g1, 0, none⟩))] [.box g1 47 kRaw (.map (some g2)), .map g2 (kPair kStr kStr) kBool t1] (fun ta rs' => ∃ (r : (List ((ByteArray × ByteArray) × Bool))), Q r ∧ ta = .eq (.tuple #[]) ∧ rs' = [.box g1 47 kRaw (.map (some g2)), .map g2 (kPair kStr kStr) kBool r]) := by
 refine Con.intro' Tryz.func34 Tryz.ntmps34 R R (fun C => ?_)
 unfold border_Check_1__b.F at hF
 refine At.region (At.does R R R R (does_load_raw (ja R) 0 R (Sub.self kRaw) tyr_47 R) ?_)
 refine At.does R R R R (jb (x := (.tv kStr a1)) (ja R)) ?_
 refine At.does R R R R (jb (x := (.tv kStr b1)) (ja R)) ?_
 refine At.does R R R R (does_smin (ja R) (ja R)) ?_
 refine At.does R R R R (jb (x := (.tv kStr a1)) (ja R)) ?_
 refine At.does R R R R (jb (x := (.tv kStr b1)) (ja R)) ?_
 refine At.does R R R R (does_smax (ja R) (ja R)) ?_
 refine At.does R R R R (jy (jr (ja R) (jr (ja R) parts_nil)) zr_50 bd_50 R (fills_cons R sub_a50_0 (fills_cons R sub_a50_1 fills_nil))) ?_
 refine At.eff R (eff_mapUpdate R R (ja R) 1 R mt_47 (ja R) (jl _)) ?_
 rintro _ _ ⟨rfl, rfl⟩
 refine At.done ?_
 refine At.norm ?_
 exact At.ret_0 rfl  [0, 1] rfl ⟨(mset ((sMin a1 b1), (sMax a1 b1)) true t1), hF, rfl, rfl⟩
def sweep_All_2__p.F (b1 : sweep_item) (t1 : sweep_item) : W Bool := W.ret (decide (b1.x.high < t1.x.low))
theorem sweep_All_2__p.ok {b1 : sweep_item} {t1 : sweep_item} {Q : Bool → Prop} (hF : sweep_All_2__p.F b1 t1 Q) : Con Tryz.prog 108 [.tv ksweep_item b1, .ptr ksweep_item t1] [] (fun ta rs' => ∃ (r : Bool), Q r ∧ ta = .tv kBool r ∧ rs' = []) := by
 refine Con.intro' Tryz.func108 Tryz.ntmps108 R R (fun C => ?_)
 unfold sweep_All_2__p.F at hF
 refine At.seq (At.region (At.eff R (jw R R R (ja R)) ?_))
 rintro _ _ ⟨g1, rfl, rfl⟩
 refine At.does R R R R (jd (x := (.tv kBool false)) (jl _)) ?_
 refine At.done (At.vg (At.seq (At.region (At.does R R R R (je (ja R) fa_156_2) ?_))))
 refine At.does R R R R (je (ja R) fa_153_1) ?_
 refine At.does R R R R (jc (ja R) 0 R sub_sweep_item_2_1 ty_3) ?_
 refine At.does R R R R (Jc (K := ksweep_item) (ja R) fa_156_2 sub_sweep_item_2) ?_
 refine At.does R R R R (Jc (K := ksweep_bounds_int) (ja R) fa_153_0 sub_sweep_bounds_int_0) ?_
 refine At.does R R R R (vp (K := (kInt .i64)) (ja R) ty_3) ?_
 refine At.does R R R R (jk (ja R) (ja R) vc) ?_
 refine At.does R R R R (jd (x := (.tv kBool (decide (b1.x.high < t1.x.low)))) (ja R)) ?_
 refine At.done (At.vg (At.ret ?_))
 exact At.ret_1 rfl (rv_tmp rfl) [] rfl ⟨(decide (b1.x.high < t1.x.low)), hF, rfl, rfl⟩
def vr.c1 : W Int := W.ret (-1 : Int)
def vr.l1 (s1 : (List sweep_item)) (c1 : sweep_item) (K1 : W Int) (A1 : Int → W Int) (t6 : Int) : W Int := W.ite (decide (t6 < (s1.length : Int))) (W.req (0 ≤ t6 ∧ t6 < (s1.length : Int)) (W.bind (sweep_All_2__p.F (rd zsweep_item s1 t6) c1) (fun r5 => W.ite r5 (W.ret t6) (A1 (w64 (t6 + (1 : Int))))))) (K1)
def vr.F (s1 : (List sweep_item)) (c1 : sweep_item) : W Int := W.ex fun n => W.iter1 (vr.l1 s1 c1 (vr.c1)) n (0 : Int)
theorem vr.ok {s1 : (List sweep_item)} {c1 : sweep_item} {Q : Int → Prop} (hF : vr.F s1 c1 Q) : Con Tryz.prog 146 [.tv (kSlice ksweep_item) s1, .cls 108 0 (tupl [.ptr ksweep_item c1])] [] (fun ta rs' => ∃ (r : Int), Q r ∧ ta = .tv (kInt .i64) r ∧ rs' = []) := by
 refine Con.intro' Tryz.func146 Tryz.ntmps146 R R (fun C => ?_)
 unfold vr.F at hF
 refine At.seq (At.region (At.does R R R R (jd (x := (.tv (kInt .i64) (0 : Int))) (ji _ _)) ?_))
 refine At.done (At.vg ?_)
 refine At.cut (fun rs L => ∃ _ : Unit, vr.c1 Q ∧ rs = [] ∧ L = mkL []) ?_ ?_
 ·refine At.seq (At.region (At.does R R R R (jb (x := (.tv (kSlice ksweep_item) s1)) (ja R)) ?_))
  refine At.does R R R R (js (ja R) Tryz.underlying151) ?_
  refine At.does R R R R (jb (x := (.tv (kInt .i64) (0 : Int))) (ji _ _)) ?_
  refine At.done (At.vg (At.block ?_))
  obtain ⟨n1, hF⟩ := hF
  refine At.weaken [] R [(0, (.tv (kSlice ksweep_item) s1)), (1, (.cls 108 0 (tupl [(.ptr ksweep_item c1)]))), (7, (.tv (kInt .i64) (s1.length : Int))), (8, (.tv (kInt .i64) (0 : Int)))] ⟨R, R, R, R, trivial⟩ ?_
  refine At.loop (fun m rs L => ∃ (t6 : Int), W.iter1 (vr.l1 s1 c1 (vr.c1)) m t6 Q ∧ rs = [] ∧ L = mkL [(0, (.tv (kSlice ksweep_item) s1)), (1, (.cls 108 0 (tupl [(.ptr ksweep_item c1)]))), (7, (.tv (kInt .i64) (s1.length : Int))), (8, (.tv (kInt .i64) t6))]) ?_ ?_ (m := n1) ⟨(0 : Int), hF, R, R⟩
  ·rintro rs L ⟨_, hF, _, _⟩; exact hF
  ·rintro m1 _ _ ⟨t6, hF, rfl, rfl⟩
   replace hF := W.iter1_s hF
   unfold vr.l1 at hF
   refine At.seq (At.region (At.does R R R R (jk (ja R) (ja R) vc) ?_))
   refine At.done (At.vg (At.seq ?_))
   refine At.cond (ja R) (fun hb9 => ?_) (fun hb9 => ?_)
   ·replace hF := W.ite_t hb9 hF
    refine At.skip (At.vg (At.seq (At.block (At.seq (At.region (At.does R R R R (jb (x := (.tv (kInt .i64) t6)) (ja R)) ?_))))))
    refine At.does R R R R (jd (x := (.tv (kInt .i64) t6)) (ja R)) ?_
    refine At.done (At.vg (At.seq (At.region (At.does R R R R (jb (x := (.cls 108 0 (tupl [(.ptr ksweep_item c1)]))) (ja R)) ?_))))
    refine At.does R R R R (jb (x := (.tv (kSlice ksweep_item) s1)) (ja R)) ?_
    refine At.does R R R R (jb (x := (.tv (kInt .i64) t6)) (ja R)) ?_
    obtain ⟨hq5, hF⟩ := hF
    refine At.does R R R R (ve zsweep_item (ja R) (ja R) Tryz.underlying151 ty_156 hq5) ?_
    refine At.does R R R R (vp (K := ksweep_item) (ja R) ty_156) ?_
    replace hF := W.vl hF
    refine At.eff R (jn R R jp (ent_val0 R (ja R) en_108 (jf (ja R) jg)) (sweep_All_2__p.ok hF) (by rintro _ _ ⟨r, _, rfl, _⟩; exact vk)) ?_
    rintro _ _ ⟨_, _, ⟨r5, hF, rfl, rfl⟩, rfl, rfl⟩
    refine At.done (At.vg ?_)
    refine At.cond (ja R) (fun hb10 => ?_) (fun hb10 => ?_)
    ·replace hF := W.ite_t hb10 hF
     refine At.seq (At.region (At.does R R R R (jb (x := (.tv (kInt .i64) t6)) (ja R)) ?_))
     refine At.does R R R R (jd (x := (.tv (kInt .i64) t6)) (ja R)) ?_
     refine At.done (At.vg (At.ret ?_))
     refine At.block_ret ?_
     refine At.vh (At.vh ?_)
     refine At.block_ret ?_
     refine At.vh ?_
     exact At.ret_1 rfl (rv_tmp rfl) [] rfl ⟨t6, hF, rfl, rfl⟩
    ·replace hF := W.ite_f hb10 hF
     refine At.skip ?_
     refine At.block_normal ?_
     refine At.vg (At.region (At.does R R R R (jk (ja R) (ji _ _) jz) ?_))
     refine At.does R R R R (jb (x := (.tv (kInt .i64) (w64 (t6 + (1 : Int))))) (ja R)) ?_
     refine At.done (At.vg ?_)
     refine At.weaken [] R [(0, (.tv (kSlice ksweep_item) s1)), (1, (.cls 108 0 (tupl [(.ptr ksweep_item c1)]))), (7, (.tv (kInt .i64) (s1.length : Int))), (8, (.tv (kInt .i64) (w64 (t6 + (1 : Int)))))] ⟨R, R, R, R, trivial⟩ (At.reach ⟨(w64 (t6 + (1 : Int))), hF, R, R⟩)
   ·replace hF := W.ite_f hb9 hF
    refine At.exit ?_
    refine At.then_exit (At.then_exit ?_)
    refine At.block_here ?_
    refine At.vg ?_
    refine At.weaken [] R [] trivial (At.reach ⟨(), hF, R, R⟩)
 ·rintro _ _ ⟨_, hF, rfl, rfl⟩
  unfold vr.c1 at hF
  refine At.seq (At.region (At.does R R R R (jd (x := (.tv (kInt .i64) (-1 : Int))) (ji _ _)) ?_))
  refine At.done (At.vg (At.ret ?_))
  exact At.ret_1 rfl (rv_tmp rfl) [] rfl ⟨(-1 : Int), hF, rfl, rfl⟩
def vo.c1 (x4 : (List sweep_item)) (i4 : Int) : W (List sweep_item) := W.req (0 ≤ i4 ∧ i4 ≤ (x4.length : Int)) (W.req (x4.length ≤ x4.length) (W.req (0 ≤ i4 ∧ i4 ≤ ((x4.take i4.toNat ++ (List.replicate (x4.length - i4.toNat) zsweep_item ++ x4.drop x4.length)).length : Int)) (W.req (i4.toNat ≤ (x4.take i4.toNat ++ (List.replicate (x4.length - i4.toNat) zsweep_item ++ x4.drop x4.length)).length) (W.ret ((x4.take i4.toNat ++ (List.replicate (x4.length - i4.toNat) zsweep_item ++ x4.drop x4.length)).take i4.toNat)))))
def vo.l1 (c1 : sweep_item) (K1 : (List sweep_item) → Int → W (List sweep_item)) (A1 : (List sweep_item) → Int → Int → W (List sweep_item)) (x7 : (List sweep_item)) (i7 : Int) (j6 : Int) : W (List sweep_item) := W.ite (decide (j6 < (x7.length : Int))) (W.req (0 ≤ j6 ∧ j6 < (x7.length : Int)) (W.req (0 ≤ j6 ∧ j6 < (x7.length : Int)) (W.bind (sweep_All_2__p.F (rd zsweep_item x7 j6) c1) (fun r6 => W.ite (!r6) (W.req (0 ≤ i7 ∧ i7 < (x7.length : Int)) (W.req (0 ≤ i7 ∧ i7 < (x7.length : Int)) (A1 (x7.set i7.toNat (rd zsweep_item x7 j6)) (w64 (i7 + (1 : Int))) (w64 (j6 + (1 : Int)))))) (A1 x7 i7 (w64 (j6 + (1 : Int)))))))) (K1 x7 i7)
def vo.F (s1 : (List sweep_item)) (c1 : sweep_item) : W (List sweep_item) := W.bind (vr.F s1 c1) (fun r1 => W.ite (r1 == (-1 : Int)) (W.ret s1) (W.ex fun n => W.iter3 (vo.l1 c1 (vo.c1)) n s1 r1 (w64 (r1 + (1 : Int)))))
theorem vo.ok {s1 : (List sweep_item)} {v1 : Value} {c1 : sweep_item} {g1 : Nat} {Q : (List sweep_item) → Prop} (hF : vo.F s1 c1 Q) : Con Tryz.prog 107 [.eq v1, .cls 108 0 (tupl [.eq (.pointer (some ⟨g1, 0, none⟩))])] [.row v1 156 ksweep_item s1, .box g1 156 ksweep_item c1] (fun ta rs' => ∃ (r : (List sweep_item)) (u0 : Value), Q r ∧ ta = .eq u0 ∧ rs' = [.row u0 156 ksweep_item r, .box g1 156 ksweep_item c1]) := by
 refine Con.intro' Tryz.func107 Tryz.ntmps107 R R (fun C => ?_)
 unfold vo.F at hF
 refine At.seq (At.region (At.does R R R R (jd (x := (.eq (.slice none 0 0))) (opd_eq _)) ?_))
 refine At.done (At.vg (At.seq (At.region (At.does R R R R (jb (x := (.eq v1)) (ja R)) ?_))))
 refine At.does R R R R (jb (x := (.cls 108 0 (tupl [(.eq (.pointer (some ⟨g1, 0, none⟩)))]))) (ja R)) ?_
 replace hF := W.vl hF
 refine At.eff R (jn R R (lends_row 0 8 R R (lends_box 1 9 R R (lend1_cls (lend1_here lend1_ptr)) jp)) (jq R en_146 (jf (ja R) (jf (ja R) jg))) (vr.ok hF) (by rintro _ _ ⟨r, _, rfl, _⟩; exact flat_int)) ?_
 rintro _ _ ⟨_, _, ⟨r1, hF, rfl, rfl⟩, rfl, rfl⟩
 refine At.does R R R R (jd (x := (.tv (kInt .i64) r1)) (ja R)) ?_
 refine At.done (At.vg (At.seq (At.seq (At.region (At.does R R R R (jb (x := (.tv (kInt .i64) r1)) (ja R)) ?_)))))
 refine At.does R R R R (jk (ja R) (ji _ _) bin_eql) ?_
 refine At.done (At.vg ?_)
 refine At.cond (ja R) (fun hb1 => ?_) (fun hb1 => ?_)
 ·replace hF := W.ite_t hb1 hF
  refine At.seq (At.region (At.does R R R R (jb (x := (.eq v1)) (ja R)) ?_))
  refine At.does R R R R (jd (x := (.eq v1)) (ja R)) ?_
  refine At.done (At.vg (At.ret (At.vh ?_)))
  exact At.ret_1 rfl (rv_tmp rfl) [0, 1] rfl ⟨s1, _, hF, rfl, rfl⟩
 ·replace hF := W.ite_f hb1 hF
  refine At.skip (At.vg ?_)
  refine At.cut (fun rs L => ∃ (x4 : (List sweep_item)) (i4 : Int), vo.c1 x4 i4 Q ∧ rs = [.row v1 156 ksweep_item x4, .box g1 156 ksweep_item c1] ∧ L = mkL [(0, (.eq v1)), (5, (.tv (kInt .i64) i4))]) ?_ ?_
  ·refine At.seq (At.region (At.does R R R R (jb (x := (.tv (kInt .i64) r1)) (ja R)) ?_))
   refine At.does R R R R (jk (ja R) (ji _ _) jz) ?_
   refine At.does R R R R (jd (x := (.tv (kInt .i64) (w64 (r1 + (1 : Int))))) (ja R)) ?_
   refine At.done (At.vg (At.block ?_))
   obtain ⟨n1, hF⟩ := hF
   refine At.weaken [0, 1] R [(0, (.eq v1)), (1, (.cls 108 0 (tupl [(.eq (.pointer (some ⟨g1, 0, none⟩)))]))), (5, (.tv (kInt .i64) r1)), (6, (.tv (kInt .i64) (w64 (r1 + (1 : Int)))))] ⟨R, R, R, R, trivial⟩ ?_
   refine At.loop (fun m rs L => ∃ (x7 : (List sweep_item)) (i7 : Int) (j6 : Int), W.iter3 (vo.l1 c1 (vo.c1)) m x7 i7 j6 Q ∧ rs = [.row v1 156 ksweep_item x7, .box g1 156 ksweep_item c1] ∧ L = mkL [(0, (.eq v1)), (1, (.cls 108 0 (tupl [(.eq (.pointer (some ⟨g1, 0, none⟩)))]))), (5, (.tv (kInt .i64) i7)), (6, (.tv (kInt .i64) j6))]) ?_ ?_ (m := n1) ⟨s1, r1, (w64 (r1 + (1 : Int))), hF, R, R⟩
   ·rintro rs L ⟨_, _, _, hF, _, _⟩; exact hF
   ·rintro m1 _ _ ⟨x7, i7, j6, hF, rfl, rfl⟩
    replace hF := W.iter3_s hF
    unfold vo.l1 at hF
    refine At.seq (At.seq (At.region (At.does R R R R (jb (x := (.tv (kInt .i64) j6)) (ja R)) ?_)))
    refine At.does R R R R (jb (x := (.eq v1)) (ja R)) ?_
    refine At.does R R R R (does_len_row (ja R) 0 R Tryz.underlying151) ?_
    refine At.does R R R R (jk (ja R) (ja R) vc) ?_
    refine At.done (At.vg ?_)
    refine At.cond (ja R) (fun hb10 => ?_) (fun hb10 => ?_)
    ·replace hF := W.ite_t hb10 hF
     refine At.skip (At.vg (At.seq (At.block (At.seq (At.region (At.does R R R R (jb (x := (.eq v1)) (ja R)) ?_))))))
     refine At.does R R R R (jb (x := (.tv (kInt .i64) j6)) (ja R)) ?_
     obtain ⟨hq21, hF⟩ := hF
     refine At.does R R R R (does_idx_row (ja R) 0 R (ja R) Tryz.underlying151 ty_156 hq21) ?_
     obtain ⟨hq22, hF⟩ := hF
     refine At.does R R R R (Jb (ja R) 0 R j6 0 R zsweep_item hq22 (Sub.self ksweep_item) ty_156) ?_
     refine At.eff R (eff_alloc R R R tz_156) ?_
     rintro _ _ ⟨g6, rfl, rfl⟩
     refine At.eff R (jx R R (ja R) 0 R (Sub.self ksweep_item) ty_156 (ja R)) ?_
     rintro _ _ ⟨rfl, rfl⟩
     refine At.done (At.vg (At.seq (At.region (At.does R R R R (jb (x := (.cls 108 0 (tupl [(.eq (.pointer (some ⟨g1, 0, none⟩)))]))) (ja R)) ?_))))
     refine At.does R R R R (jc (ja R) 0 R (Sub.self ksweep_item) ty_156) ?_
     replace hF := W.vl hF
     refine At.eff R (jn R R (lends_box 2 26 R R (lend1_cls (lend1_here lend1_ptr)) jp) (ent_val0 R (ja R) en_108 (jf (ja R) jg)) (sweep_All_2__p.ok hF) (by rintro _ _ ⟨r, _, rfl, _⟩; exact vk)) ?_
     rintro _ _ ⟨_, _, ⟨r6, hF, rfl, rfl⟩, rfl, rfl⟩
     refine At.does R R R R (does_not (ja R)) ?_
     refine At.done (At.vg ?_)
     refine At.cond (ja R) (fun hb11 => ?_) (fun hb11 => ?_)
     ·replace hF := W.ite_t hb11 hF
      refine At.seq (At.region (At.does R R R R (jb (x := (.eq v1)) (ja R)) ?_))
      refine At.does R R R R (jb (x := (.tv (kInt .i64) i7)) (ja R)) ?_
      refine At.does R R R R (jc (ja R) 0 R (Sub.self ksweep_item) ty_156) ?_
      obtain ⟨hq23, hF⟩ := hF
      refine At.does R R R R (does_idx_row (ja R) 1 R (ja R) Tryz.underlying151 ty_156 hq23) ?_
      obtain ⟨hq24, hF⟩ := hF
      refine At.eff R (eff_store_elem R R (ja R) 1 R i7 0 R zsweep_item hq24 (Sub.self ksweep_item) ty_156 (ja R)) ?_
      rintro _ _ ⟨rfl, rfl⟩
      refine At.done (At.vg (At.region (At.does R R R R (jb (x := (.tv (kInt .i64) i7)) (ja R)) ?_)))
      refine At.does R R R R (jk (ja R) (ji _ _) jz) ?_
      refine At.does R R R R (jd (x := (.tv (kInt .i64) (w64 (i7 + (1 : Int))))) (ja R)) ?_
      refine At.done ?_
      refine At.block_normal ?_
      refine At.vg (At.region (At.does R R R R (jb (x := (.tv (kInt .i64) j6)) (ja R)) ?_))
      refine At.does R R R R (jk (ja R) (ji _ _) jz) ?_
      refine At.does R R R R (jd (x := (.tv (kInt .i64) (w64 (j6 + (1 : Int))))) (ja R)) ?_
      refine At.done (At.vg ?_)
      refine At.weaken [1, 2] R [(0, (.eq v1)), (1, (.cls 108 0 (tupl [(.eq (.pointer (some ⟨g1, 0, none⟩)))]))), (5, (.tv (kInt .i64) (w64 (i7 + (1 : Int))))), (6, (.tv (kInt .i64) (w64 (j6 + (1 : Int)))))] ⟨R, R, R, R, trivial⟩ (At.reach ⟨(x7.set i7.toNat (rd zsweep_item x7 j6)), (w64 (i7 + (1 : Int))), (w64 (j6 + (1 : Int))), hF, R, R⟩)
     ·replace hF := W.ite_f hb11 hF
      refine At.skip ?_
      refine At.block_normal ?_
      refine At.vg (At.region (At.does R R R R (jb (x := (.tv (kInt .i64) j6)) (ja R)) ?_))
      refine At.does R R R R (jk (ja R) (ji _ _) jz) ?_
      refine At.does R R R R (jd (x := (.tv (kInt .i64) (w64 (j6 + (1 : Int))))) (ja R)) ?_
      refine At.done (At.vg ?_)
      refine At.weaken [1, 2] R [(0, (.eq v1)), (1, (.cls 108 0 (tupl [(.eq (.pointer (some ⟨g1, 0, none⟩)))]))), (5, (.tv (kInt .i64) i7)), (6, (.tv (kInt .i64) (w64 (j6 + (1 : Int)))))] ⟨R, R, R, R, trivial⟩ (At.reach ⟨x7, i7, (w64 (j6 + (1 : Int))), hF, R, R⟩)
    ·replace hF := W.ite_f hb10 hF
     refine At.exit ?_
     refine At.then_exit (At.then_exit ?_)
     refine At.block_here ?_
     refine At.vg ?_
     refine At.weaken [0, 1] R [(0, (.eq v1)), (5, (.tv (kInt .i64) i7))] ⟨R, R, trivial⟩ (At.reach ⟨x7, i7, hF, R, R⟩)
  ·rintro _ _ ⟨x4, i4, hF, rfl, rfl⟩
   unfold vo.c1 at hF
   refine At.seq (At.region (At.does R R R R (jb (x := (.eq v1)) (ja R)) ?_))
   refine At.does R R R R (jb (x := (.tv (kInt .i64) i4)) (ja R)) ?_
   obtain ⟨hq9, hF⟩ := hF
   refine At.does R R R R (does_cutrow_l (ja R) 0 R (ja R) Tryz.underlying151 ty_156 hq9) ?_
   obtain ⟨hq10, hF⟩ := hF
   refine At.eff R (eff_clear_cut R R 0 R (ja R) hq10 Tryz.underlying151 tz_156) ?_
   rintro _ _ ⟨rfl, rfl⟩
   refine At.done (At.vg (At.seq (At.region (At.does R R R R (jb (x := (.eq v1)) (ja R)) ?_))))
   refine At.does R R R R (jb (x := (.tv (kInt .i64) i4)) (ja R)) ?_
   obtain ⟨hq11, hF⟩ := hF
   refine At.does R R R R (does_cutrow_h (ja R) 0 R (ja R) Tryz.underlying151 ty_156 hq11) ?_
   refine At.does R R R R (jd (x := (cutv 0 i4.toNat ksweep_item.sz v1)) (ja R)) ?_
   refine At.done (At.vg (At.ret ?_))
   obtain ⟨hq12, hF⟩ := hF
   refine At.cutrow 0 4 R R hq12 (fun v2 => ?_)
   exact At.ret_1 rfl (rv_tmp rfl) [0, 1] rfl ⟨((x4.take i4.toNat ++ (List.replicate (x4.length - i4.toNat) zsweep_item ++ x4.drop x4.length)).take i4.toNat), _, hF, rfl, rfl⟩
def cmp_Or_int.c1 : W Int := W.ret (0 : Int)
def cmp_Or_int.l1 (vals1 : (List Int)) (K1 : W Int) (A1 : Int → W Int) (t6 : Int) : W Int := W.ite (decide (t6 < (vals1.length : Int))) (W.req (0 ≤ t6 ∧ t6 < (vals1.length : Int)) (W.ite ((rd (0 : Int) vals1 t6) != (0 : Int)) (W.ret (rd (0 : Int) vals1 t6)) (A1 (w64 (t6 + (1 : Int)))))) (K1)
def cmp_Or_int.F (vals1 : (List Int)) : W Int := W.ex fun n => W.iter1 (cmp_Or_int.l1 vals1 (cmp_Or_int.c1)) n (0 : Int)
theorem cmp_Or_int.ok {vals1 : (List Int)} {Q : Int → Prop} (hF : cmp_Or_int.F vals1 Q) : Con Tryz.prog 106 [.tv (kSlice (kInt .i64)) vals1] [] (fun ta rs' => ∃ (r : Int), Q r ∧ ta = .tv (kInt .i64) r ∧ rs' = []) := by
 refine Con.intro' Tryz.func106 Tryz.ntmps106 R R (fun C => ?_)
 unfold cmp_Or_int.F at hF
 refine At.seq (At.region (At.does R R R R (jd (x := (.tv (kInt .i64) (0 : Int))) (ji _ _)) ?_))
 refine At.done (At.vg (At.seq (At.region (At.does R R R R (jd (x := (.tv (kInt .i64) (0 : Int))) (ji _ _)) ?_))))
 refine At.done (At.vg ?_)
 refine At.cut (fun rs L => ∃ _ : Unit, cmp_Or_int.c1 Q ∧ rs = [] ∧ L = mkL [(3, (.tv (kInt .i64) (0 : Int)))]) ?_ ?_
 ·refine At.seq (At.region (At.does R R R R (jb (x := (.tv (kSlice (kInt .i64)) vals1)) (ja R)) ?_))
  refine At.does R R R R (js (ja R) Tryz.underlying89) ?_
  refine At.does R R R R (jb (x := (.tv (kInt .i64) (0 : Int))) (ji _ _)) ?_
  refine At.done (At.vg (At.block ?_))
  obtain ⟨n1, hF⟩ := hF
  refine At.weaken [] R [(3, (.tv (kInt .i64) (0 : Int))), (6, (.tv (kSlice (kInt .i64)) vals1)), (7, (.tv (kInt .i64) (vals1.length : Int))), (8, (.tv (kInt .i64) (0 : Int)))] ⟨R, R, R, R, trivial⟩ ?_
  refine At.loop (fun m rs L => ∃ (t6 : Int), W.iter1 (cmp_Or_int.l1 vals1 (cmp_Or_int.c1)) m t6 Q ∧ rs = [] ∧ L = mkL [(3, (.tv (kInt .i64) (0 : Int))), (6, (.tv (kSlice (kInt .i64)) vals1)), (7, (.tv (kInt .i64) (vals1.length : Int))), (8, (.tv (kInt .i64) t6))]) ?_ ?_ (m := n1) ⟨(0 : Int), hF, R, R⟩
  ·rintro rs L ⟨_, hF, _, _⟩; exact hF
  ·rintro m1 _ _ ⟨t6, hF, rfl, rfl⟩
   replace hF := W.iter1_s hF
   unfold cmp_Or_int.l1 at hF
   refine At.seq (At.region (At.does R R R R (jk (ja R) (ja R) vc) ?_))
   refine At.done (At.vg (At.seq ?_))
   refine At.cond (ja R) (fun hb9 => ?_) (fun hb9 => ?_)
   ·replace hF := W.ite_t hb9 hF
    refine At.skip (At.vg (At.seq (At.block (At.seq (At.region ?_)))))
    obtain ⟨hq5, hF⟩ := hF
    refine At.does R R R R (ve (0 : Int) (ja R) (ja R) Tryz.underlying89 ty_3 hq5) ?_
    refine At.does R R R R (vp (K := (kInt .i64)) (ja R) ty_3) ?_
    refine At.does R R R R (jd (x := (.tv (kInt .i64) (rd (0 : Int) vals1 t6))) (ja R)) ?_
    refine At.done (At.vg (At.seq (At.region (At.does R R R R (jb (x := (.tv (kInt .i64) (rd (0 : Int) vals1 t6))) (ja R)) ?_))))
    refine At.does R R R R (jb (x := (.tv (kInt .i64) (0 : Int))) (ja R)) ?_
    refine At.does R R R R (jk (ja R) (ja R) bin_neq) ?_
    refine At.done (At.vg ?_)
    refine At.cond (ja R) (fun hb10 => ?_) (fun hb10 => ?_)
    ·replace hF := W.ite_t hb10 hF
     refine At.seq (At.region (At.does R R R R (jb (x := (.tv (kInt .i64) (rd (0 : Int) vals1 t6))) (ja R)) ?_))
     refine At.does R R R R (jd (x := (.tv (kInt .i64) (rd (0 : Int) vals1 t6))) (ja R)) ?_
     refine At.done (At.vg (At.ret ?_))
     refine At.block_ret ?_
     refine At.vh (At.vh ?_)
     refine At.block_ret ?_
     refine At.vh ?_
     exact At.ret_1 rfl (rv_tmp rfl) [] rfl ⟨(rd (0 : Int) vals1 t6), hF, rfl, rfl⟩
    ·replace hF := W.ite_f hb10 hF
     refine At.skip ?_
     refine At.block_normal ?_
     refine At.vg (At.region (At.does R R R R (jk (ja R) (ji _ _) jz) ?_))
     refine At.does R R R R (jb (x := (.tv (kInt .i64) (w64 (t6 + (1 : Int))))) (ja R)) ?_
     refine At.done (At.vg ?_)
     refine At.weaken [] R [(3, (.tv (kInt .i64) (0 : Int))), (6, (.tv (kSlice (kInt .i64)) vals1)), (7, (.tv (kInt .i64) (vals1.length : Int))), (8, (.tv (kInt .i64) (w64 (t6 + (1 : Int)))))] ⟨R, R, R, R, trivial⟩ (At.reach ⟨(w64 (t6 + (1 : Int))), hF, R, R⟩)
   ·replace hF := W.ite_f hb9 hF
    refine At.exit ?_
    refine At.then_exit (At.then_exit ?_)
    refine At.block_here ?_
    refine At.vg ?_
    refine At.weaken [] R [(3, (.tv (kInt .i64) (0 : Int)))] ⟨R, trivial⟩ (At.reach ⟨(), hF, R, R⟩)
 ·rintro _ _ ⟨_, hF, rfl, rfl⟩
  unfold cmp_Or_int.c1 at hF
  refine At.seq (At.region (At.does R R R R (jb (x := (.tv (kInt .i64) (0 : Int))) (ja R)) ?_))
  refine At.does R R R R (jd (x := (.tv (kInt .i64) (0 : Int))) (ja R)) ?_
  refine At.done (At.vg (At.ret ?_))
  exact At.ret_1 rfl (rv_tmp rfl) [] rfl ⟨(0 : Int), hF, rfl, rfl⟩
def sweep_All_3.F (a1 : Meet) (b1 : Meet) : W Int := W.bind (cmp_Or_int.F ([(w64 (a1.A - b1.A)), (w64 (a1.B - b1.B))] : List Int)) (fun r1 => W.ret r1)
theorem sweep_All_3.ok {a1 : Meet} {b1 : Meet} {Q : Int → Prop} (hF : sweep_All_3.F a1 b1 Q) : Con Tryz.prog 111 [.tv kMeet a1, .tv kMeet b1] [] (fun ta rs' => ∃ (r : Int), Q r ∧ ta = .tv (kInt .i64) r ∧ rs' = []) := by
 refine Con.intro' Tryz.func111 Tryz.ntmps111 R R (fun C => ?_)
 unfold sweep_All_3.F at hF
 refine At.seq (At.region (At.eff R (jw R R R (ja R)) ?_))
 rintro _ _ ⟨g1, rfl, rfl⟩
 refine At.eff R (jw R R R (ja R)) ?_
 rintro _ _ ⟨g2, rfl, rfl⟩
 refine At.does R R R R (jd (x := (.tv (kInt .i64) (0 : Int))) (ji _ _)) ?_
 refine At.done (At.vg (At.seq (At.region (At.does R R R R (je (ja R) fa_125_0) ?_))))
 refine At.does R R R R (jc (ja R) 1 R sub_Meet_0 ty_3) ?_
 refine At.does R R R R (je (ja R) fa_125_0) ?_
 refine At.does R R R R (jc (ja R) 0 R sub_Meet_0 ty_3) ?_
 refine At.does R R R R (jk (ja R) (ja R) bin_sub) ?_
 refine At.does R R R R (je (ja R) fa_125_1) ?_
 refine At.does R R R R (jc (ja R) 1 R sub_Meet_1 ty_3) ?_
 refine At.does R R R R (je (ja R) fa_125_1) ?_
 refine At.does R R R R (jc (ja R) 0 R sub_Meet_1 ty_3) ?_
 refine At.does R R R R (jk (ja R) (ja R) bin_sub) ?_
 refine At.eff R (eff_lit R R R (os := [.tmp 9, .tmp 14]) R sl_89 (xs := ([(w64 (a1.A - b1.A)), (w64 (a1.B - b1.B))] : List Int)) (jf (ja R) (jf (ja R) jg)) R R) ?_
 rintro _ _ ⟨v1, rfl, rfl⟩
 replace hF := W.vl hF
 refine At.eff R (jn R R (lends_row 0 15 R R jp) (jq R en_106 (jf (ja R) jg)) (cmp_Or_int.ok hF) (by rintro _ _ ⟨r, _, rfl, _⟩; exact flat_int)) ?_
 rintro _ _ ⟨_, _, ⟨r1, hF, rfl, rfl⟩, rfl, rfl⟩
 refine At.does R R R R (jd (x := (.tv (kInt .i64) r1)) (ja R)) ?_
 refine At.done (At.vg (At.ret ?_))
 exact At.ret_1 rfl (rv_tmp rfl) [] rfl ⟨r1, hF, rfl, rfl⟩
def slices_SortFunc_api_Meet_api_Meet__o_sweep_All_3.F (x : (List Meet)) : W (List Meet) := W.sort (fun a b => sweep_All_3.F a b) x W.ret
theorem slices_SortFunc_api_Meet_api_Meet__o_sweep_All_3.ok {x : (List Meet)} {u : Value} {Q : (List Meet) → Prop} (hF : slices_SortFunc_api_Meet_api_Meet__o_sweep_All_3.F x Q) : Con Tryz.prog 110 [.eq u, .cls 111 0 (tupl [])] [.row u 125 kMeet x] (fun ta rs' => ∃ (r : (List Meet)), Q r ∧ ta = .eq (.tuple #[]) ∧ rs' = [.row u 125 kMeet r]) := by
 obtain ⟨hl, cf, hO, hc, hk⟩ := hF
 exact (con_sortFunc Tryz.sort110 rfl rfl ty_125 en_111 (fun a b ha hb => (sweep_All_3.ok (hc a b ha hb)).mono (by rintro ta rs' ⟨r, rfl, rfl, rfl⟩; rfl)) hO hl).mono (by rintro ta rs' ⟨ys, hp, hs, rfl, rfl⟩; exact ⟨ys, hk ys hp hs, rfl, rfl⟩)
def sweep_All_1.F (a1 : sweep_item) (b1 : sweep_item) : W Int := W.bind (cmp_Compare_int.F a1.x.low b1.x.low) (fun r1 => W.bind (cmp_Or_int.F ([r1, (w64 (a1.index - b1.index))] : List Int)) (fun r2 => W.ret r2))
theorem sweep_All_1.ok {a1 : sweep_item} {b1 : sweep_item} {Q : Int → Prop} (hF : sweep_All_1.F a1 b1 Q) : Con Tryz.prog 105 [.tv ksweep_item a1, .tv ksweep_item b1] [] (fun ta rs' => ∃ (r : Int), Q r ∧ ta = .tv (kInt .i64) r ∧ rs' = []) := by
 refine Con.intro' Tryz.func105 Tryz.ntmps105 R R (fun C => ?_)
 unfold sweep_All_1.F at hF
 refine At.seq (At.region (At.eff R (jw R R R (ja R)) ?_))
 rintro _ _ ⟨g1, rfl, rfl⟩
 refine At.eff R (jw R R R (ja R)) ?_
 rintro _ _ ⟨g2, rfl, rfl⟩
 refine At.does R R R R (jd (x := (.tv (kInt .i64) (0 : Int))) (ji _ _)) ?_
 refine At.done (At.vg (At.seq ?_))
 refine At.draw mixed [0, 1] R [[], []] (fun φ w hgd => ?_)
 replace hF := W.vl hF
 refine AtH.take [0, 1] hgd 0 R R R R (D' := #[Y,N,N,N,N,N,N,N,N,N,N,N,N,N,N]) (by kernel_rfl) (fun _ _ _ _ h => h) R (je (ja R) fa_156_2) ?_
 refine AtH.take [0, 1] hgd 1 R R R R (D' := #[Y,Y,N,N,N,N,N,N,N,N,N,N,N,N,N]) (by kernel_rfl) (fun _ _ _ _ h => h) R (je (ja R) fa_153_0) ?_
 refine AtH.take [0, 1] hgd 2 R R R R (D' := #[Y,Y,Y,N,N,N,N,N,N,N,N,N,N,N,N]) (by kernel_rfl) (fun _ _ _ _ h => h) R (jc (ja R) 1 R sub_sweep_item_2_0 ty_3) ?_
 refine AtH.take [0, 1] hgd 3 R R R R (D' := #[Y,Y,Y,Y,N,N,N,N,N,N,N,N,N,N,N]) (by kernel_rfl) (fun _ _ _ _ h => h) R (je (ja R) fa_156_2) ?_
 refine AtH.take [0, 1] hgd 4 R R R R (D' := #[Y,Y,Y,Y,Y,N,N,N,N,N,N,N,N,N,N]) (by kernel_rfl) (fun _ _ _ _ h => h) R (je (ja R) fa_153_0) ?_
 refine AtH.take [0, 1] hgd 5 R R R R (D' := #[Y,Y,Y,Y,Y,Y,N,N,N,N,N,N,N,N,N]) (by kernel_rfl) (fun _ _ _ _ h => h) R (jc (ja R) 0 R sub_sweep_item_2_0 ty_3) ?_
 refine AtH.take [0, 1] hgd 7 R R R R (D' := #[Y,Y,Y,Y,Y,Y,N,Y,N,N,N,N,N,N,N]) (by kernel_rfl) (fun _ _ _ _ h => h) R (je (ja R) fa_156_0) ?_
 refine AtH.take [0, 1] hgd 8 R R R R (D' := #[Y,Y,Y,Y,Y,Y,N,Y,Y,N,N,N,N,N,N]) (by kernel_rfl) (fun _ _ _ _ h => h) R (jc (ja R) 1 R sub_sweep_item_0 ty_3) ?_
 refine AtH.take [0, 1] hgd 9 R R R R (D' := #[Y,Y,Y,Y,Y,Y,N,Y,Y,Y,N,N,N,N,N]) (by kernel_rfl) (fun _ _ _ _ h => h) R (je (ja R) fa_156_0) ?_
 refine AtH.take [0, 1] hgd 10 R R R R (D' := #[Y,Y,Y,Y,Y,Y,N,Y,Y,Y,Y,N,N,N,N]) (by kernel_rfl) (fun _ _ _ _ h => h) R (jc (ja R) 0 R sub_sweep_item_0 ty_3) ?_
 refine AtH.take [0, 1] hgd 11 R R R R (D' := #[Y,Y,Y,Y,Y,Y,N,Y,Y,Y,Y,Y,N,N,N]) (by kernel_rfl) (fun _ _ _ _ h => h) R (jk (ja R) (ja R) bin_sub) ?_
 refine AtH.all1 6 (by kernel_rfl) ?_
 refine AtH.eff [(0, 0), (1, 1)] R R R R R R (jn R R jp (jq R en_92 (jf (ja R) (jf (ja R) jg))) (cmp_Compare_int.ok hF) (by rintro _ _ ⟨r, _, rfl, _⟩; exact flat_int)) (D' := #[Y,Y,Y,Y,Y,Y,Y,Y,Y,Y,Y,Y,N,N,N]) (by kernel_rfl) (by kernel_rfl) ?_
 rintro _ _ ⟨_, _, ⟨r1, hF, rfl, rfl⟩, rfl, rfl⟩
 refine ⟨_, .inr ⟨R, flat_int⟩, ?_⟩
 replace hF := W.vl hF
 refine AtH.all1 12 (by kernel_rfl) ?_
 refine AtH.eff [(0, 0), (1, 1)] R R R R R R (eff_lit R R R (os := [.tmp 11, .tmp 16]) R sl_89 (xs := ([r1, (w64 (a1.index - b1.index))] : List Int)) (jf (ja R) (jf (ja R) jg)) R R) (D' := #[Y,Y,Y,Y,Y,Y,Y,Y,Y,Y,Y,Y,Y,N,N]) (by kernel_rfl) (by kernel_rfl) ?_
 rintro _ _ ⟨v2, rfl, rfl⟩
 refine ⟨_, .inr ⟨R, flat_eq⟩, ?_⟩
 refine AtH.all1 13 (by kernel_rfl) ?_
 refine AtH.eff [(0, 1), (1, 2)] R R R R R R (jn R R (lends_row 0 17 R R jp) (jq R en_106 (jf (ja R) jg)) (cmp_Or_int.ok hF) (by rintro _ _ ⟨r, _, rfl, _⟩; exact flat_int)) (D' := #[Y,Y,Y,Y,Y,Y,Y,Y,Y,Y,Y,Y,Y,Y,N]) (by kernel_rfl) (by kernel_rfl) ?_
 rintro _ _ ⟨_, _, ⟨r2, hF, rfl, rfl⟩, rfl, rfl⟩
 refine ⟨_, .inr ⟨R, flat_int⟩, ?_⟩
 refine AtH.take [0, 1] hgd 14 R R R R (D' := #[Y,Y,Y,Y,Y,Y,Y,Y,Y,Y,Y,Y,Y,Y,Y]) (by kernel_rfl) (fun _ _ _ _ h => h) R (jd (x := (.tv (kInt .i64) r2)) (ja R)) ?_
 refine AtH.done (by kernel_rfl) ?_
 refine At.vg (At.ret ?_)
 exact At.ret_1 rfl (rv_tmp rfl) [] rfl ⟨r2, hF, rfl, rfl⟩
def slices_SortFunc_sweep_item_sweep_item__o_sweep_All_1.F (x : (List sweep_item)) : W (List sweep_item) := W.sort (fun a b => sweep_All_1.F a b) x W.ret
theorem slices_SortFunc_sweep_item_sweep_item__o_sweep_All_1.ok {x : (List sweep_item)} {u : Value} {Q : (List sweep_item) → Prop} (hF : slices_SortFunc_sweep_item_sweep_item__o_sweep_All_1.F x Q) : Con Tryz.prog 104 [.eq u, .cls 105 0 (tupl [])] [.row u 156 ksweep_item x] (fun ta rs' => ∃ (r : (List sweep_item)), Q r ∧ ta = .eq (.tuple #[]) ∧ rs' = [.row u 156 ksweep_item r]) := by
 obtain ⟨hl, cf, hO, hc, hk⟩ := hF
 exact (con_sortFunc Tryz.sort104 rfl rfl ty_156 en_105 (fun a b ha hb => (sweep_All_1.ok (hc a b ha hb)).mono (by rintro ta rs' ⟨r, rfl, rfl, rfl⟩; rfl)) hO hl).mono (by rintro ta rs' ⟨ys, hp, hs, rfl, rfl⟩; exact ⟨ys, hk ys hp hs, rfl, rfl⟩)
def sweep_bounds_int_meets.F (b1 : sweep_bounds_int) (c1 : sweep_bounds_int) : W Bool := W.ret ((decide (b1.low ≤ c1.high)) && (decide (c1.low ≤ b1.high)))
theorem sweep_bounds_int_meets.ok {b1 : sweep_bounds_int} {c1 : sweep_bounds_int} {Q : Bool → Prop} (hF : sweep_bounds_int_meets.F b1 c1 Q) : Con Tryz.prog 109 [.tv ksweep_bounds_int b1, .tv ksweep_bounds_int c1] [] (fun ta rs' => ∃ (r : Bool), Q r ∧ ta = .tv kBool r ∧ rs' = []) := by
 refine Con.intro' Tryz.func109 Tryz.ntmps109 R R (fun C => ?_)
 unfold sweep_bounds_int_meets.F at hF
 refine At.seq (At.region (At.eff R (jw R R R (ja R)) ?_))
 rintro _ _ ⟨g1, rfl, rfl⟩
 refine At.eff R (jw R R R (ja R)) ?_
 rintro _ _ ⟨g2, rfl, rfl⟩
 refine At.does R R R R (jd (x := (.tv kBool false)) (jl _)) ?_
 refine At.done (At.vg (At.seq (At.region (At.does R R R R (je (ja R) fa_153_0) ?_))))
 refine At.does R R R R (jc (ja R) 1 R sub_sweep_bounds_int_0 ty_3) ?_
 refine At.does R R R R (je (ja R) fa_153_1) ?_
 refine At.does R R R R (jc (ja R) 0 R sub_sweep_bounds_int_1 ty_3) ?_
 refine At.does R R R R (jk (ja R) (ja R) bin_leq) ?_
 refine At.does R R R R (jb (x := (.tv kBool (decide (b1.low ≤ c1.high)))) (ja R)) ?_
 refine At.vi R R R R (ju R) R (fun hg1 => (je (ja R) fa_153_0)) ?_
 refine At.vi R R R R (ju R) R (fun hg2 => (jc (jh R hg2) 0 R sub_sweep_bounds_int_0 ty_3)) ?_
 refine At.vi R R R R (ju R) R (fun hg3 => (je (ja R) fa_153_1)) ?_
 refine At.vi R R R R (ju R) R (fun hg4 => (jc (jh R hg4) 1 R sub_sweep_bounds_int_1 ty_3)) ?_
 refine At.vi R R R R (ju R) R (fun hg5 => (jk (jh R hg5) (jh R hg5) bin_leq)) ?_
 refine At.does R R R R (jm (ja R) (ja R) (jl _) vd) ?_
 refine At.does R R R R (jd (x := (.tv kBool ((decide (b1.low ≤ c1.high)) && (decide (c1.low ≤ b1.high))))) (ja R)) ?_
 refine At.done (At.vg (At.ret ?_))
 exact At.ret_1 rfl (rv_tmp rfl) [] rfl ⟨((decide (b1.low ≤ c1.high)) && (decide (c1.low ≤ b1.high))), hF, rfl, rfl⟩
def sweep_of_int.F (a1 : Int) (b1 : Int) : W sweep_bounds_int := W.ret (⟨(if b1 < a1 then b1 else a1), (if a1 < b1 then b1 else a1)⟩ : sweep_bounds_int)
theorem sweep_of_int.ok {a1 : Int} {b1 : Int} {Q : sweep_bounds_int → Prop} (hF : sweep_of_int.F a1 b1 Q) : Con Tryz.prog 103 [.tv (kInt .i64) a1, .tv (kInt .i64) b1] [] (fun ta rs' => ∃ (r : sweep_bounds_int), Q r ∧ ta = .tv ksweep_bounds_int r ∧ rs' = []) := by
 refine Con.intro' Tryz.func103 Tryz.ntmps103 R R (fun C => ?_)
 unfold sweep_of_int.F at hF
 refine At.seq (At.region (At.eff R (eff_alloc R R R tz_153) ?_))
 rintro _ _ ⟨g1, rfl, rfl⟩
 refine At.done (At.vg (At.seq (At.region (At.does R R R R (jb (x := (.tv (kInt .i64) a1)) (ja R)) ?_))))
 refine At.does R R R R (jb (x := (.tv (kInt .i64) b1)) (ja R)) ?_
 refine At.does R R R R (does_min (ja R) (ja R)) ?_
 refine At.does R R R R (jb (x := (.tv (kInt .i64) a1)) (ja R)) ?_
 refine At.does R R R R (jb (x := (.tv (kInt .i64) b1)) (ja R)) ?_
 refine At.does R R R R (does_max (ja R) (ja R)) ?_
 refine At.does R R R R (jy (jr (ja R) (jr (ja R) parts_nil)) zr_153 bd_153 R (fills_cons R sub_sweep_bounds_int_0 (fills_cons R sub_sweep_bounds_int_1 fills_nil))) ?_
 refine At.eff R (jx R R (ja R) 0 R (Sub.self ksweep_bounds_int) ty_153 (ja R)) ?_
 rintro _ _ ⟨rfl, rfl⟩
 refine At.done (At.vg (At.ret ?_))
 exact At.ret_1 rfl (rv_cell rfl 0 rfl ty_153) [] rfl ⟨(⟨(if b1 < a1 then b1 else a1), (if a1 < b1 then b1 else a1)⟩ : sweep_bounds_int), hF, rfl, rfl⟩
def sweep_All.c2 (x23 : (List Meet)) : W ((List Meet) × Int) := W.bind (slices_SortFunc_api_Meet_api_Meet__o_sweep_All_3.F x23) (fun r16 => W.ret (r16, (0 : Int)))
def sweep_All.c3 (t21 : Int) (A1 : (List Meet) → (List sweep_item) → Int → W ((List Meet) × Int)) (x46 : (List Meet)) (x47 : (List sweep_item)) : W ((List Meet) × Int) := A1 x46 x47 (w64 (t21 + (1 : Int)))
def sweep_All.c4 (r5 : (List sweep_item)) (t21 : Int) (K3 : (List Meet) → (List sweep_item) → W ((List Meet) × Int)) (r32 : (List sweep_item)) (x51 : (List Meet)) : W ((List Meet) × Int) := W.req ((r32.length + ([(rd zsweep_item r5 t21)] : List sweep_item).length) * 72 ≤ 140737488355328 ∧ r32.length + ([(rd zsweep_item r5 t21)] : List sweep_item).length ≤ 140737488355328) (K3 x51 (r32 ++ ([(rd zsweep_item r5 t21)] : List sweep_item)))
def sweep_All.l2 (r5 : (List sweep_item)) (t21 : Int) (r32 : (List sweep_item)) (K4 : (List Meet) → W ((List Meet) × Int)) (A2 : (List Meet) → Int → W ((List Meet) × Int)) (x54 : (List Meet)) (t30 : Int) : W ((List Meet) × Int) := W.ite (decide (t30 < (r32.length : Int))) (W.req (0 ≤ t30 ∧ t30 < (r32.length : Int)) (W.req (0 ≤ t30 ∧ t30 < (r32.length : Int)) (W.bind (sweep_bounds_int_meets.F ((rd zsweep_item r5 t21).y) ((rd zsweep_item r32 t30).y)) (fun r41 => W.ite (!r41) (A2 x54 (w64 (t30 + (1 : Int)))) (W.bind (geom_Meets.F ((rd zsweep_item r5 t21).s) ((rd zsweep_item r32 t30).s)) (fun r42 => W.ite (r42 != (0 : Int)) (W.req ((x54.length + ([(⟨(if ((rd zsweep_item r32 t30).index) < ((rd zsweep_item r5 t21).index) then ((rd zsweep_item r32 t30).index) else ((rd zsweep_item r5 t21).index)), (if ((rd zsweep_item r5 t21).index) < ((rd zsweep_item r32 t30).index) then ((rd zsweep_item r32 t30).index) else ((rd zsweep_item r5 t21).index)), r42⟩ : Meet)] : List Meet).length) * 24 ≤ 140737488355328 ∧ x54.length + ([(⟨(if ((rd zsweep_item r32 t30).index) < ((rd zsweep_item r5 t21).index) then ((rd zsweep_item r32 t30).index) else ((rd zsweep_item r5 t21).index)), (if ((rd zsweep_item r5 t21).index) < ((rd zsweep_item r32 t30).index) then ((rd zsweep_item r32 t30).index) else ((rd zsweep_item r5 t21).index)), r42⟩ : Meet)] : List Meet).length ≤ 140737488355328) (A2 (x54 ++ ([(⟨(if ((rd zsweep_item r32 t30).index) < ((rd zsweep_item r5 t21).index) then ((rd zsweep_item r32 t30).index) else ((rd zsweep_item r5 t21).index)), (if ((rd zsweep_item r5 t21).index) < ((rd zsweep_item r32 t30).index) then ((rd zsweep_item r32 t30).index) else ((rd zsweep_item r5 t21).index)), r42⟩ : Meet)] : List Meet)) (w64 (t30 + (1 : Int))))) (A2 x54 (w64 (t30 + (1 : Int)))))))))) (K4 x54)
def sweep_All.l1 (r5 : (List sweep_item)) (K2 : (List Meet) → W ((List Meet) × Int)) (A1 : (List Meet) → (List sweep_item) → Int → W ((List Meet) × Int)) (x40 : (List Meet)) (x41 : (List sweep_item)) (t21 : Int) : W ((List Meet) × Int) := W.ite (decide (t21 < (r5.length : Int))) (W.req (0 ≤ t21 ∧ t21 < (r5.length : Int)) (W.req (0 ≤ t21 ∧ t21 < (r5.length : Int)) (W.bind (vo.F x41 (rd zsweep_item r5 t21)) (fun r32 => W.ex fun n => W.iter2 (sweep_All.l2 r5 t21 r32 (sweep_All.c4 r5 t21 (sweep_All.c3 t21 A1) r32)) n x40 (0 : Int))))) (K2 x40)
def sweep_All.c1 (x4 : (List sweep_item)) : W ((List Meet) × Int) := W.bind (slices_SortFunc_sweep_item_sweep_item__o_sweep_All_1.F x4) (fun r5 => W.ex fun n => W.iter3 (sweep_All.l1 r5 (sweep_All.c2)) n ([] : List Meet) ([] : List sweep_item) (0 : Int))
def sweep_All.l3 (l1 : (List Segment)) (K1 : (List sweep_item) → W ((List Meet) × Int)) (A3 : (List sweep_item) → Int → W ((List Meet) × Int)) (x57 : (List sweep_item)) (t33 : Int) : W ((List Meet) × Int) := W.ite (decide (t33 < (l1.length : Int))) (W.req (0 ≤ t33 ∧ t33 < (l1.length : Int)) (W.bind (sweep_of_int.F ((rd zSegment l1 t33).A.X) ((rd zSegment l1 t33).B.X)) (fun r47 => W.bind (sweep_of_int.F ((rd zSegment l1 t33).A.Y) ((rd zSegment l1 t33).B.Y)) (fun r48 => W.req (0 ≤ t33 ∧ t33 < (x57.length : Int)) (A3 (x57.set t33.toNat (⟨t33, (rd zSegment l1 t33), r47, r48⟩ : sweep_item)) (w64 (t33 + (1 : Int)))))))) (K1 x57)
def sweep_All.F (l1 : (List Segment)) : W ((List Meet) × Int) := W.ite (decide ((20000 : Int) < (l1.length : Int))) (W.ret (([] : List Meet), (2 : Int))) (W.req (0 ≤ (l1.length : Int) ∧ (l1.length : Int) * 72 ≤ 140737488355328 ∧ (l1.length : Int) ≤ 140737488355328) (W.ex fun n => W.iter2 (sweep_All.l3 l1 (sweep_All.c1)) n (List.replicate (l1.length : Int).toNat zsweep_item) (0 : Int)))
theorem sweep_All.ok {l1 : (List Segment)} {Q : ((List Meet) × Int) → Prop} (hF : sweep_All.F l1 Q) : Con Tryz.prog 70 [.tv (kSlice kSegment) l1] [] (fun ta rs' => ∃ (r : ((List Meet) × Int)) (u0 : Value), Q r ∧ ta = .tup2 (.eq u0) (.tv (kInt .i64) r.2) ∧ rs' = [.row u0 125 kMeet r.1]) := by
 refine Con.intro' Tryz.func70 Tryz.ntmps70 R R (fun C => ?_)
 unfold sweep_All.F at hF
 refine At.seq (At.region (At.does R R R R (jd (x := (.eq (.slice none 0 0))) (opd_eq _)) ?_))
 refine At.does R R R R (jd (x := (.tv (kInt .i64) (0 : Int))) (ji _ _)) ?_
 refine At.done (At.vg (At.seq (At.seq (At.region (At.does R R R R (jb (x := (.tv (kSlice kSegment) l1)) (ja R)) ?_)))))
 refine At.does R R R R (js (ja R) Tryz.underlying27) ?_
 refine At.does R R R R (jk (ja R) (ji _ _) bin_gtr) ?_
 refine At.done (At.vg ?_)
 refine At.cond (ja R) (fun hb1 => ?_) (fun hb1 => ?_)
 ·replace hF := W.ite_t hb1 hF
  refine At.seq (At.region (At.does R R R R (jd (x := (.eq (.slice none 0 0))) (opd_eq _)) ?_))
  refine At.does R R R R (jd (x := (.tv (kInt .i64) (2 : Int))) (ji _ _)) ?_
  refine At.done (At.vg (At.ret (At.vh ?_)))
  refine At.nilrow 125 kMeet ?_
  exact At.ret_2 rfl (rv_tmp rfl) (rv_tmp rfl) [0] rfl ⟨(([] : List Meet), (2 : Int)), _, hF, rfl, rfl⟩
 ·replace hF := W.ite_f hb1 hF
  refine At.skip (At.vg (At.seq (At.region (At.does R R R R (jb (x := (.tv (kSlice kSegment) l1)) (ja R)) ?_))))
  refine At.does R R R R (js (ja R) Tryz.underlying27) ?_
  obtain ⟨hq1, hF⟩ := hF
  refine At.eff R (eff_makeN R R R sl_151 tz_156 (ja R) (ja R) hq1) ?_
  rintro _ _ ⟨v1, rfl, rfl⟩
  refine At.does R R R R (jd (x := (.eq v1)) (ja R)) ?_
  refine At.done (At.vg ?_)
  refine At.cut (fun rs L => ∃ (x4 : (List sweep_item)), sweep_All.c1 x4 Q ∧ rs = [.row v1 156 ksweep_item x4] ∧ L = mkL [(4, (.eq v1))]) ?_ ?_
  ·refine At.seq (At.region (At.does R R R R (jb (x := (.tv (kSlice kSegment) l1)) (ja R)) ?_))
   refine At.does R R R R (js (ja R) Tryz.underlying27) ?_
   refine At.does R R R R (jb (x := (.tv (kInt .i64) (0 : Int))) (ji _ _)) ?_
   refine At.done (At.vg (At.block ?_))
   obtain ⟨n3, hF⟩ := hF
   refine At.weaken [0] R [(4, (.eq v1)), (20, (.tv (kSlice kSegment) l1)), (21, (.tv (kInt .i64) (l1.length : Int))), (22, (.tv (kInt .i64) (0 : Int)))] ⟨R, R, R, R, trivial⟩ ?_
   refine At.loop (fun m rs L => ∃ (x57 : (List sweep_item)) (t33 : Int), W.iter2 (sweep_All.l3 l1 (sweep_All.c1)) m x57 t33 Q ∧ rs = [.row v1 156 ksweep_item x57] ∧ L = mkL [(4, (.eq v1)), (20, (.tv (kSlice kSegment) l1)), (21, (.tv (kInt .i64) (l1.length : Int))), (22, (.tv (kInt .i64) t33))]) ?_ ?_ (m := n3) ⟨(List.replicate (l1.length : Int).toNat zsweep_item), (0 : Int), hF, R, R⟩
   ·rintro rs L ⟨_, _, hF, _, _⟩; exact hF
   ·rintro m3 _ _ ⟨x57, t33, hF, rfl, rfl⟩
    replace hF := W.iter2_s hF
    unfold sweep_All.l3 at hF
    refine At.seq (At.region (At.does R R R R (jk (ja R) (ja R) vc) ?_))
    refine At.done (At.vg (At.seq ?_))
    refine At.cond (ja R) (fun hb56 => ?_) (fun hb56 => ?_)
    ·replace hF := W.ite_t hb56 hF
     refine At.skip (At.vg (At.seq (At.block (At.seq (At.region (At.does R R R R (jb (x := (.tv (kInt .i64) t33)) (ja R)) ?_))))))
     obtain ⟨hq73, hF⟩ := hF
     refine At.does R R R R (ve zSegment (ja R) (ja R) Tryz.underlying27 ty_39 hq73) ?_
     refine At.does R R R R (vp (K := kSegment) (ja R) ty_39) ?_
     refine At.eff R (eff_alloc R R R tz_39) ?_
     rintro _ _ ⟨g26, rfl, rfl⟩
     refine At.does R R R R (jd (x := (.tv (kInt .i64) t33)) (ja R)) ?_
     refine At.eff R (jx R R (ja R) 0 R (Sub.self kSegment) ty_39 (ja R)) ?_
     rintro _ _ ⟨rfl, rfl⟩
     refine At.done (At.vg ?_)
     refine At.draw mixed [0, 1] R [[], [20]] (fun φ w hgd => ?_)
     replace hF := W.vl hF
     refine AtH.take [0, 1] hgd 0 R R R R (D' := #[Y,N,N,N,N,N,N,N,N,N,N,N,N,N,N,N,N,N,N,N,N]) (by kernel_rfl) (fun _ _ _ _ h => h) R (jb (x := (.eq v1)) (ja R)) ?_
     refine AtH.take [0, 1] hgd 1 R R R R (D' := #[Y,Y,N,N,N,N,N,N,N,N,N,N,N,N,N,N,N,N,N,N,N]) (by kernel_rfl) (fun _ _ _ _ h => h) R (jb (x := (.tv (kInt .i64) t33)) (ja R)) ?_
     refine AtH.take [0, 1] hgd 2 R R R R (D' := #[Y,Y,Y,N,N,N,N,N,N,N,N,N,N,N,N,N,N,N,N,N,N]) (by kernel_rfl) (fun _ _ _ _ h => h) R (jb (x := (.tv (kInt .i64) t33)) (ja R)) ?_
     refine AtH.take [0, 1] hgd 3 R R R R (D' := #[Y,Y,Y,Y,N,N,N,N,N,N,N,N,N,N,N,N,N,N,N,N,N]) (by kernel_rfl) (fun _ _ _ _ h => h) R (jc (ja R) 0 R (Sub.self kSegment) ty_39) ?_
     refine AtH.take [0, 1] hgd 4 R R R R (D' := #[Y,Y,Y,Y,Y,N,N,N,N,N,N,N,N,N,N,N,N,N,N,N,N]) (by kernel_rfl) (fun _ _ _ _ h => h) R (je (ja R) fa_39_0) ?_
     refine AtH.take [0, 1] hgd 5 R R R R (D' := #[Y,Y,Y,Y,Y,Y,N,N,N,N,N,N,N,N,N,N,N,N,N,N,N]) (by kernel_rfl) (fun _ _ _ _ h => h) R (je (ja R) fa_37_0) ?_
     refine AtH.take [0, 1] hgd 6 R R R R (D' := #[Y,Y,Y,Y,Y,Y,Y,N,N,N,N,N,N,N,N,N,N,N,N,N,N]) (by kernel_rfl) (fun _ _ _ _ h => h) R (jc (ja R) 0 R sub_Segment_0_0 ty_3) ?_
     refine AtH.take [0, 1] hgd 7 R R R R (D' := #[Y,Y,Y,Y,Y,Y,Y,Y,N,N,N,N,N,N,N,N,N,N,N,N,N]) (by kernel_rfl) (fun _ _ _ _ h => h) R (je (ja R) fa_39_1) ?_
     refine AtH.take [0, 1] hgd 8 R R R R (D' := #[Y,Y,Y,Y,Y,Y,Y,Y,Y,N,N,N,N,N,N,N,N,N,N,N,N]) (by kernel_rfl) (fun _ _ _ _ h => h) R (je (ja R) fa_37_0) ?_
     refine AtH.take [0, 1] hgd 9 R R R R (D' := #[Y,Y,Y,Y,Y,Y,Y,Y,Y,Y,N,N,N,N,N,N,N,N,N,N,N]) (by kernel_rfl) (fun _ _ _ _ h => h) R (jc (ja R) 0 R sub_Segment_1_0 ty_3) ?_
     refine AtH.take [0, 1] hgd 11 R R R R (D' := #[Y,Y,Y,Y,Y,Y,Y,Y,Y,Y,N,Y,N,N,N,N,N,N,N,N,N]) (by kernel_rfl) (fun _ _ _ _ h => h) R (je (ja R) fa_39_0) ?_
     refine AtH.take [0, 1] hgd 12 R R R R (D' := #[Y,Y,Y,Y,Y,Y,Y,Y,Y,Y,N,Y,Y,N,N,N,N,N,N,N,N]) (by kernel_rfl) (fun _ _ _ _ h => h) R (je (ja R) fa_37_1) ?_
     refine AtH.take [0, 1] hgd 13 R R R R (D' := #[Y,Y,Y,Y,Y,Y,Y,Y,Y,Y,N,Y,Y,Y,N,N,N,N,N,N,N]) (by kernel_rfl) (fun _ _ _ _ h => h) R (jc (ja R) 0 R sub_Segment_0_1 ty_3) ?_
     refine AtH.take [0, 1] hgd 14 R R R R (D' := #[Y,Y,Y,Y,Y,Y,Y,Y,Y,Y,N,Y,Y,Y,Y,N,N,N,N,N,N]) (by kernel_rfl) (fun _ _ _ _ h => h) R (je (ja R) fa_39_1) ?_
     refine AtH.take [0, 1] hgd 15 R R R R (D' := #[Y,Y,Y,Y,Y,Y,Y,Y,Y,Y,N,Y,Y,Y,Y,Y,N,N,N,N,N]) (by kernel_rfl) (fun _ _ _ _ h => h) R (je (ja R) fa_37_1) ?_
     refine AtH.take [0, 1] hgd 16 R R R R (D' := #[Y,Y,Y,Y,Y,Y,Y,Y,Y,Y,N,Y,Y,Y,Y,Y,Y,N,N,N,N]) (by kernel_rfl) (fun _ _ _ _ h => h) R (jc (ja R) 0 R sub_Segment_1_1 ty_3) ?_
     refine AtH.all1 10 (by kernel_rfl) ?_
     refine AtH.eff [(0, 0), (1, 1)] R R R R R R (jn R R jp (jq R en_103 (jf (ja R) (jf (ja R) jg))) (sweep_of_int.ok hF) (by rintro _ _ ⟨r, _, rfl, _⟩; exact (flat_tv flat_sweep_bounds_int))) (D' := #[Y,Y,Y,Y,Y,Y,Y,Y,Y,Y,Y,Y,Y,Y,Y,Y,Y,N,N,N,N]) (by kernel_rfl) (by kernel_rfl) ?_
     rintro _ _ ⟨_, _, ⟨r47, hF, rfl, rfl⟩, rfl, rfl⟩
     refine ⟨_, .inr ⟨R, (flat_tv flat_sweep_bounds_int)⟩, ?_⟩
     replace hF := W.vl hF
     refine AtH.all1 17 (by kernel_rfl) ?_
     refine AtH.eff [(0, 0), (1, 1)] R R R R R R (jn R R jp (jq R en_103 (jf (ja R) (jf (ja R) jg))) (sweep_of_int.ok hF) (by rintro _ _ ⟨r, _, rfl, _⟩; exact (flat_tv flat_sweep_bounds_int))) (D' := #[Y,Y,Y,Y,Y,Y,Y,Y,Y,Y,Y,Y,Y,Y,Y,Y,Y,Y,N,N,N]) (by kernel_rfl) (by kernel_rfl) ?_
     rintro _ _ ⟨_, _, ⟨r48, hF, rfl, rfl⟩, rfl, rfl⟩
     refine ⟨_, .inr ⟨R, (flat_tv flat_sweep_bounds_int)⟩, ?_⟩
     obtain ⟨hq74, hF⟩ := hF
     refine AtH.take [0, 1] hgd 18 R R R R (D' := #[Y,Y,Y,Y,Y,Y,Y,Y,Y,Y,Y,Y,Y,Y,Y,Y,Y,Y,Y,N,N]) (by kernel_rfl) (fun _ _ _ _ h => h) R (jy (jr (ja R) (jr (ja R) (jr (ja R) (jr (ja R) parts_nil)))) zr_156 bd_156 R (fills_cons R sub_sweep_item_0 (fills_cons R sub_sweep_item_1 (fills_cons R sub_sweep_item_2 (fills_cons R sub_sweep_item_3 fills_nil))))) ?_
     refine AtH.take [0, 1] hgd 19 R R R R (D' := #[Y,Y,Y,Y,Y,Y,Y,Y,Y,Y,Y,Y,Y,Y,Y,Y,Y,Y,Y,Y,N]) (by kernel_rfl) (fun _ _ _ _ h => h) R (does_idx_row (ja R) 1 R (ja R) Tryz.underlying151 ty_156 hq74) ?_
     refine AtH.all1 20 (by kernel_rfl) ?_
     refine AtH.eff0 [(0, 0)] R R R R R (eff_store_elem R R (ja R) 1 R t33 0 R zsweep_item hq74 (Sub.self ksweep_item) ty_156 (ja R)) (D' := #[Y,Y,Y,Y,Y,Y,Y,Y,Y,Y,Y,Y,Y,Y,Y,Y,Y,Y,Y,Y,Y]) (by kernel_rfl) (by kernel_rfl) ?_
     rintro _ _ ⟨rfl, rfl⟩
     refine AtH.done (by kernel_rfl) ?_
     refine At.block_normal ?_
     refine At.vg (At.region (At.does R R R R (jk (ja R) (ji _ _) jz) ?_))
     refine At.does R R R R (jb (x := (.tv (kInt .i64) (w64 (t33 + (1 : Int))))) (ja R)) ?_
     refine At.done (At.vg ?_)
     refine At.weaken [1] R [(4, (.eq v1)), (20, (.tv (kSlice kSegment) l1)), (21, (.tv (kInt .i64) (l1.length : Int))), (22, (.tv (kInt .i64) (w64 (t33 + (1 : Int)))))] ⟨R, R, R, R, trivial⟩ (At.reach ⟨(x57.set t33.toNat (⟨t33, (rd zSegment l1 t33), r47, r48⟩ : sweep_item)), (w64 (t33 + (1 : Int))), hF, R, R⟩)
    ·replace hF := W.ite_f hb56 hF
     refine At.exit ?_
     refine At.then_exit (At.then_exit ?_)
     refine At.block_here ?_
     refine At.vg ?_
     refine At.weaken [0] R [(4, (.eq v1))] ⟨R, trivial⟩ (At.reach ⟨x57, hF, R, R⟩)
  ·rintro _ _ ⟨x4, hF, rfl, rfl⟩
   unfold sweep_All.c1 at hF
   refine At.seq (At.region (At.does R R R R (jb (x := (.eq v1)) (ja R)) ?_))
   replace hF := W.vl hF
   refine At.eff R (jo R R (jq R en_104 (jf (ja R) (jf (opd_fn 105) jg))) [0] R (slices_SortFunc_sweep_item_sweep_item__o_sweep_All_1.ok hF)) ?_
   rintro _ _ ⟨_, _, ⟨r5, hF, rfl, rfl⟩, rfl, rfl⟩
   refine At.done (At.vg (At.seq (At.region (At.does R R R R (jd (x := (.eq (.slice none 0 0))) (opd_eq _)) ?_))))
   refine At.done (At.vg (At.seq (At.region (At.does R R R R (jd (x := (.eq (.slice none 0 0))) (opd_eq _)) ?_))))
   refine At.done (At.vg ?_)
   refine At.cut (fun rs L => ∃ (x23 : (List Meet)) (v34 : Value), sweep_All.c2 x23 Q ∧ rs = [.row v34 125 kMeet x23] ∧ L = mkL [(7, (.eq v34))]) ?_ ?_
   ·refine At.seq (At.region (At.does R R R R (jb (x := (.eq v1)) (ja R)) ?_))
    refine At.does R R R R (does_len_row (ja R) 0 R Tryz.underlying151) ?_
    refine At.does R R R R (jb (x := (.tv (kInt .i64) (0 : Int))) (ji _ _)) ?_
    refine At.done (At.vg (At.block ?_))
    refine At.nilrow 125 kMeet ?_
    refine At.nilrow 156 ksweep_item ?_
    obtain ⟨n2, hF⟩ := hF
    refine At.weaken [1, 0, 2] R [(7, (.eq (.slice none 0 0))), (8, (.eq (.slice none 0 0))), (50, (.eq v1)), (51, (.tv (kInt .i64) (r5.length : Int))), (52, (.tv (kInt .i64) (0 : Int)))] ⟨R, R, R, R, R, trivial⟩ ?_
    refine At.loop (fun m rs L => ∃ (x40 : (List Meet)) (v65 : Value) (x41 : (List sweep_item)) (v66 : Value) (t21 : Int), W.iter3 (sweep_All.l1 r5 (sweep_All.c2)) m x40 x41 t21 Q ∧ rs = [.row v65 125 kMeet x40, .row v66 156 ksweep_item x41, .row v1 156 ksweep_item r5] ∧ L = mkL [(7, (.eq v65)), (8, (.eq v66)), (50, (.eq v1)), (51, (.tv (kInt .i64) (r5.length : Int))), (52, (.tv (kInt .i64) t21))]) ?_ ?_ (m := n2) ⟨([] : List Meet), (.slice none 0 0), ([] : List sweep_item), (.slice none 0 0), (0 : Int), hF, R, R⟩
    ·rintro rs L ⟨_, _, _, _, _, hF, _, _⟩; exact hF
    ·rintro m1 _ _ ⟨x40, v65, x41, v66, t21, hF, rfl, rfl⟩
     replace hF := W.iter3_s hF
     unfold sweep_All.l1 at hF
     refine At.seq (At.region (At.does R R R R (jk (ja R) (ja R) vc) ?_))
     refine At.done (At.vg (At.seq ?_))
     refine At.cond (ja R) (fun hb32 => ?_) (fun hb32 => ?_)
     ·replace hF := W.ite_t hb32 hF
      refine At.skip (At.vg ?_)
      refine At.cut (fun rs L => ∃ (x46 : (List Meet)) (v78 : Value) (x47 : (List sweep_item)) (v79 : Value), sweep_All.c3 t21 (W.iter3 (sweep_All.l1 r5 (sweep_All.c2)) m1) x46 x47 Q ∧ rs = [.row v78 125 kMeet x46, .row v79 156 ksweep_item x47, .row v1 156 ksweep_item r5] ∧ L = mkL [(7, (.eq v78)), (8, (.eq v79)), (50, (.eq v1)), (51, (.tv (kInt .i64) (r5.length : Int))), (52, (.tv (kInt .i64) t21))]) ?_ ?_
      ·refine At.block (At.seq (At.region ?_))
       obtain ⟨hq51, hF⟩ := hF
       refine At.does R R R R (does_idx_row (ja R) 2 R (ja R) Tryz.underlying151 ty_156 hq51) ?_
       obtain ⟨hq52, hF⟩ := hF
       refine At.does R R R R (Jb (ja R) 2 R t21 0 R zsweep_item hq52 (Sub.self ksweep_item) ty_156) ?_
       refine At.eff R (eff_alloc R R R tz_156) ?_
       rintro _ _ ⟨g18, rfl, rfl⟩
       refine At.eff R (jx R R (ja R) 0 R (Sub.self ksweep_item) ty_156 (ja R)) ?_
       rintro _ _ ⟨rfl, rfl⟩
       refine At.done (At.vg (At.seq (At.region (At.does R R R R (jb (x := (.eq v66)) (ja R)) ?_))))
       refine At.does R R R R (does_cls (firsts := []) (caps := [.tmp 10]) R (jf (ja R) jg)) ?_
       replace hF := W.vl hF
       refine At.eff R (jo R R (jq R en_107 (jf (ja R) (jf (ja R) jg))) [2, 0] R (vo.ok hF)) ?_
       rintro _ _ ⟨_, _, ⟨r32, v80, hF, rfl, rfl⟩, rfl, rfl⟩
       refine At.does R R R R (jd (x := (.eq v80)) (ja R)) ?_
       refine At.done (At.vg ?_)
       refine At.cut (fun rs L => ∃ (x51 : (List Meet)) (v88 : Value), sweep_All.c4 r5 t21 (sweep_All.c3 t21 (W.iter3 (sweep_All.l1 r5 (sweep_All.c2)) m1)) r32 x51 Q ∧ rs = [.row v88 125 kMeet x51, .row v80 156 ksweep_item r32, .box g18 156 ksweep_item (rd zsweep_item r5 t21), .row v1 156 ksweep_item r5] ∧ L = mkL [(7, (.eq v88)), (8, (.eq v80)), (10, (.eq (.pointer (some ⟨g18, 0, none⟩)))), (50, (.eq v1)), (51, (.tv (kInt .i64) (r5.length : Int))), (52, (.tv (kInt .i64) t21))]) ?_ ?_
       ·refine At.seq (At.region (At.does R R R R (jb (x := (.eq v80)) (ja R)) ?_))
        refine At.does R R R R (does_len_row (ja R) 0 R Tryz.underlying151) ?_
        refine At.does R R R R (jb (x := (.tv (kInt .i64) (0 : Int))) (ji _ _)) ?_
        refine At.done (At.vg (At.block ?_))
        obtain ⟨n1, hF⟩ := hF
        refine At.weaken [3, 0, 1, 5] R [(7, (.eq v65)), (8, (.eq v80)), (10, (.eq (.pointer (some ⟨g18, 0, none⟩)))), (50, (.eq v1)), (51, (.tv (kInt .i64) (r5.length : Int))), (52, (.tv (kInt .i64) t21)), (59, (.eq v80)), (60, (.tv (kInt .i64) (r32.length : Int))), (61, (.tv (kInt .i64) (0 : Int)))] ⟨R, R, R, R, R, R, R, R, R, trivial⟩ ?_
        refine At.loop (fun m rs L => ∃ (x54 : (List Meet)) (v97 : Value) (t30 : Int), W.iter2 (sweep_All.l2 r5 t21 r32 (sweep_All.c4 r5 t21 (sweep_All.c3 t21 (W.iter3 (sweep_All.l1 r5 (sweep_All.c2)) m1)) r32)) m x54 t30 Q ∧ rs = [.row v97 125 kMeet x54, .row v80 156 ksweep_item r32, .box g18 156 ksweep_item (rd zsweep_item r5 t21), .row v1 156 ksweep_item r5] ∧ L = mkL [(7, (.eq v97)), (8, (.eq v80)), (10, (.eq (.pointer (some ⟨g18, 0, none⟩)))), (50, (.eq v1)), (51, (.tv (kInt .i64) (r5.length : Int))), (52, (.tv (kInt .i64) t21)), (59, (.eq v80)), (60, (.tv (kInt .i64) (r32.length : Int))), (61, (.tv (kInt .i64) t30))]) ?_ ?_ (m := n1) ⟨x40, v65, (0 : Int), hF, R, R⟩
        ·rintro rs L ⟨_, _, _, hF, _, _⟩; exact hF
        ·rintro m2 _ _ ⟨x54, v97, t30, hF, rfl, rfl⟩
         replace hF := W.iter2_s hF
         unfold sweep_All.l2 at hF
         refine At.seq (At.region (At.does R R R R (jk (ja R) (ja R) vc) ?_))
         refine At.done (At.vg (At.seq ?_))
         refine At.cond (ja R) (fun hb51 => ?_) (fun hb51 => ?_)
         ·replace hF := W.ite_t hb51 hF
          refine At.skip (At.vg (At.seq (At.block (At.seq (At.region ?_)))))
          obtain ⟨hq66, hF⟩ := hF
          refine At.does R R R R (does_idx_row (ja R) 1 R (ja R) Tryz.underlying151 ty_156 hq66) ?_
          obtain ⟨hq67, hF⟩ := hF
          refine At.does R R R R (Jb (ja R) 1 R t30 0 R zsweep_item hq67 (Sub.self ksweep_item) ty_156) ?_
          refine At.eff R (eff_alloc R R R tz_156) ?_
          rintro _ _ ⟨g23, rfl, rfl⟩
          refine At.eff R (jx R R (ja R) 0 R (Sub.self ksweep_item) ty_156 (ja R)) ?_
          rintro _ _ ⟨rfl, rfl⟩
          refine At.done (At.vg (At.seq (At.seq (At.region (At.does R R R R (je (ja R) fa_156_3) ?_)))))
          refine At.does R R R R (jc (ja R) 3 R sub_sweep_item_3 ty_153) ?_
          refine At.does R R R R (je (ja R) fa_156_3) ?_
          refine At.does R R R R (jc (ja R) 0 R sub_sweep_item_3 ty_153) ?_
          replace hF := W.vl hF
          refine At.eff R (jn R R jp (jq R en_109 (jf (ja R) (jf (ja R) jg))) (sweep_bounds_int_meets.ok hF) (by rintro _ _ ⟨r, _, rfl, _⟩; exact vk)) ?_
          rintro _ _ ⟨_, _, ⟨r41, hF, rfl, rfl⟩, rfl, rfl⟩
          refine At.does R R R R (does_not (ja R)) ?_
          refine At.done (At.vg ?_)
          refine At.cond (ja R) (fun hb52 => ?_) (fun hb52 => ?_)
          ·replace hF := W.ite_t hb52 hF
           refine At.exit ?_
           refine At.then_exit ?_
           refine At.block_here ?_
           refine At.vg (At.region (At.does R R R R (jk (ja R) (ji _ _) jz) ?_))
           refine At.does R R R R (jb (x := (.tv (kInt .i64) (w64 (t30 + (1 : Int))))) (ja R)) ?_
           refine At.done (At.vg ?_)
           refine At.weaken [1, 2, 3, 4] R [(7, (.eq v97)), (8, (.eq v80)), (10, (.eq (.pointer (some ⟨g18, 0, none⟩)))), (50, (.eq v1)), (51, (.tv (kInt .i64) (r5.length : Int))), (52, (.tv (kInt .i64) t21)), (59, (.eq v80)), (60, (.tv (kInt .i64) (r32.length : Int))), (61, (.tv (kInt .i64) (w64 (t30 + (1 : Int)))))] ⟨R, R, R, R, R, R, R, R, R, trivial⟩ (At.reach ⟨x54, v97, (w64 (t30 + (1 : Int))), hF, R, R⟩)
          ·replace hF := W.ite_f hb52 hF
           refine At.skip (At.vg (At.seq (At.region (At.does R R R R (je (ja R) fa_156_1) ?_))))
           refine At.does R R R R (jc (ja R) 3 R sub_sweep_item_1 ty_39) ?_
           refine At.does R R R R (je (ja R) fa_156_1) ?_
           refine At.does R R R R (jc (ja R) 0 R sub_sweep_item_1 ty_39) ?_
           replace hF := W.vl hF
           refine At.eff R (jn R R jp (jq R en_23 (jf (ja R) (jf (ja R) jg))) (geom_Meets.ok hF) (by rintro _ _ ⟨r, _, rfl, _⟩; exact flat_int)) ?_
           rintro _ _ ⟨_, _, ⟨r42, hF, rfl, rfl⟩, rfl, rfl⟩
           refine At.does R R R R (jd (x := (.tv (kInt .i64) r42)) (ja R)) ?_
           refine At.done (At.vg (At.seq (At.region (At.does R R R R (jb (x := (.tv (kInt .i64) r42)) (ja R)) ?_))))
           refine At.does R R R R (jk (ja R) (ji _ _) bin_neq) ?_
           refine At.done (At.vg ?_)
           refine At.cond (ja R) (fun hb53 => ?_) (fun hb53 => ?_)
           ·replace hF := W.ite_t hb53 hF
            refine At.region (At.does R R R R (jb (x := (.eq v97)) (ja R)) ?_)
            refine At.does R R R R (je (ja R) fa_156_0) ?_
            refine At.does R R R R (jc (ja R) 3 R sub_sweep_item_0 ty_3) ?_
            refine At.does R R R R (je (ja R) fa_156_0) ?_
            refine At.does R R R R (jc (ja R) 0 R sub_sweep_item_0 ty_3) ?_
            refine At.does R R R R (does_min (ja R) (ja R)) ?_
            refine At.does R R R R (je (ja R) fa_156_0) ?_
            refine At.does R R R R (jc (ja R) 3 R sub_sweep_item_0 ty_3) ?_
            refine At.does R R R R (je (ja R) fa_156_0) ?_
            refine At.does R R R R (jc (ja R) 0 R sub_sweep_item_0 ty_3) ?_
            refine At.does R R R R (does_max (ja R) (ja R)) ?_
            refine At.does R R R R (jb (x := (.tv (kInt .i64) r42)) (ja R)) ?_
            refine At.does R R R R (jy (jr (ja R) (jr (ja R) (jr (ja R) parts_nil))) zr_125 bd_125 R (fills_cons R sub_Meet_0 (fills_cons R sub_Meet_1 (fills_cons R sub_Meet_2 fills_nil)))) ?_
            refine At.eff R (eff_lit R R R (os := [.tmp 90]) R sl_121 (xs := ([(⟨(if ((rd zsweep_item r32 t30).index) < ((rd zsweep_item r5 t21).index) then ((rd zsweep_item r32 t30).index) else ((rd zsweep_item r5 t21).index)), (if ((rd zsweep_item r5 t21).index) < ((rd zsweep_item r32 t30).index) then ((rd zsweep_item r32 t30).index) else ((rd zsweep_item r5 t21).index)), r42⟩ : Meet)] : List Meet)) (jf (ja R) jg) R R) ?_
            rintro _ _ ⟨v98, rfl, rfl⟩
            obtain ⟨hq68, hF⟩ := hF
            refine At.eff R (eff_append_row R R R 2 0 R R (ja R) (ja R) sl_121 hq68) ?_
            rintro _ _ ⟨v99, rfl, rfl⟩
            refine At.does R R R R (jd (x := (.eq v99)) (ja R)) ?_
            refine At.done ?_
            refine At.block_normal ?_
            refine At.vg (At.region (At.does R R R R (jk (ja R) (ji _ _) jz) ?_))
            refine At.does R R R R (jb (x := (.tv (kInt .i64) (w64 (t30 + (1 : Int))))) (ja R)) ?_
            refine At.done (At.vg ?_)
            refine At.weaken [2, 3, 4, 5] R [(7, (.eq v99)), (8, (.eq v80)), (10, (.eq (.pointer (some ⟨g18, 0, none⟩)))), (50, (.eq v1)), (51, (.tv (kInt .i64) (r5.length : Int))), (52, (.tv (kInt .i64) t21)), (59, (.eq v80)), (60, (.tv (kInt .i64) (r32.length : Int))), (61, (.tv (kInt .i64) (w64 (t30 + (1 : Int)))))] ⟨R, R, R, R, R, R, R, R, R, trivial⟩ (At.reach ⟨(x54 ++ ([(⟨(if ((rd zsweep_item r32 t30).index) < ((rd zsweep_item r5 t21).index) then ((rd zsweep_item r32 t30).index) else ((rd zsweep_item r5 t21).index)), (if ((rd zsweep_item r5 t21).index) < ((rd zsweep_item r32 t30).index) then ((rd zsweep_item r32 t30).index) else ((rd zsweep_item r5 t21).index)), r42⟩ : Meet)] : List Meet)), v99, (w64 (t30 + (1 : Int))), hF, R, R⟩)
           ·replace hF := W.ite_f hb53 hF
            refine At.skip ?_
            refine At.block_normal ?_
            refine At.vg (At.region (At.does R R R R (jk (ja R) (ji _ _) jz) ?_))
            refine At.does R R R R (jb (x := (.tv (kInt .i64) (w64 (t30 + (1 : Int))))) (ja R)) ?_
            refine At.done (At.vg ?_)
            refine At.weaken [1, 2, 3, 4] R [(7, (.eq v97)), (8, (.eq v80)), (10, (.eq (.pointer (some ⟨g18, 0, none⟩)))), (50, (.eq v1)), (51, (.tv (kInt .i64) (r5.length : Int))), (52, (.tv (kInt .i64) t21)), (59, (.eq v80)), (60, (.tv (kInt .i64) (r32.length : Int))), (61, (.tv (kInt .i64) (w64 (t30 + (1 : Int)))))] ⟨R, R, R, R, R, R, R, R, R, trivial⟩ (At.reach ⟨x54, v97, (w64 (t30 + (1 : Int))), hF, R, R⟩)
         ·replace hF := W.ite_f hb51 hF
          refine At.exit ?_
          refine At.then_exit (At.then_exit ?_)
          refine At.block_here ?_
          refine At.vg ?_
          refine At.weaken [0, 1, 2, 3] R [(7, (.eq v97)), (8, (.eq v80)), (10, (.eq (.pointer (some ⟨g18, 0, none⟩)))), (50, (.eq v1)), (51, (.tv (kInt .i64) (r5.length : Int))), (52, (.tv (kInt .i64) t21))] ⟨R, R, R, R, R, R, trivial⟩ (At.reach ⟨x54, v97, hF, R, R⟩)
       ·rintro _ _ ⟨x51, v88, hF, rfl, rfl⟩
        unfold sweep_All.c4 at hF
        refine At.region (At.does R R R R (jb (x := (.eq v80)) (ja R)) ?_)
        refine At.does R R R R (jc (ja R) 2 R (Sub.self ksweep_item) ty_156) ?_
        refine At.eff R (eff_lit R R R (os := [.tmp 95]) R sl_151 (xs := ([(rd zsweep_item r5 t21)] : List sweep_item)) (jf (ja R) jg) R R) ?_
        rintro _ _ ⟨v89, rfl, rfl⟩
        obtain ⟨hq59, hF⟩ := hF
        refine At.eff R (eff_append_row R R R 2 0 R R (ja R) (ja R) sl_151 hq59) ?_
        rintro _ _ ⟨v90, rfl, rfl⟩
        refine At.does R R R R (jd (x := (.eq v90)) (ja R)) ?_
        refine At.done ?_
        refine At.block_normal ?_
        refine At.vg ?_
        refine At.weaken [1, 2, 4] R [(7, (.eq v88)), (8, (.eq v90)), (50, (.eq v1)), (51, (.tv (kInt .i64) (r5.length : Int))), (52, (.tv (kInt .i64) t21))] ⟨R, R, R, R, R, trivial⟩ (At.reach ⟨x51, v88, (r32 ++ ([(rd zsweep_item r5 t21)] : List sweep_item)), v90, hF, R, R⟩)
      ·rintro _ _ ⟨x46, v78, x47, v79, hF, rfl, rfl⟩
       unfold sweep_All.c3 at hF
       refine At.region (At.does R R R R (jk (ja R) (ji _ _) jz) ?_)
       refine At.does R R R R (jb (x := (.tv (kInt .i64) (w64 (t21 + (1 : Int))))) (ja R)) ?_
       refine At.done (At.vg ?_)
       refine At.weaken [0, 1, 2] R [(7, (.eq v78)), (8, (.eq v79)), (50, (.eq v1)), (51, (.tv (kInt .i64) (r5.length : Int))), (52, (.tv (kInt .i64) (w64 (t21 + (1 : Int)))))] ⟨R, R, R, R, R, trivial⟩ (At.reach ⟨x46, v78, x47, v79, (w64 (t21 + (1 : Int))), hF, R, R⟩)
     ·replace hF := W.ite_f hb32 hF
      refine At.exit ?_
      refine At.then_exit (At.then_exit ?_)
      refine At.block_here ?_
      refine At.vg ?_
      refine At.weaken [0] R [(7, (.eq v65))] ⟨R, trivial⟩ (At.reach ⟨x40, v65, hF, R, R⟩)
   ·rintro _ _ ⟨x23, v34, hF, rfl, rfl⟩
    unfold sweep_All.c2 at hF
    refine At.seq (At.region (At.does R R R R (jb (x := (.eq v34)) (ja R)) ?_))
    replace hF := W.vl hF
    refine At.eff R (jo R R (jq R en_110 (jf (ja R) (jf (opd_fn 111) jg))) [0] R (slices_SortFunc_api_Meet_api_Meet__o_sweep_All_3.ok hF)) ?_
    rintro _ _ ⟨_, _, ⟨r16, hF, rfl, rfl⟩, rfl, rfl⟩
    refine At.done (At.vg (At.seq (At.region (At.does R R R R (jb (x := (.eq v34)) (ja R)) ?_))))
    refine At.does R R R R (jd (x := (.eq v34)) (ja R)) ?_
    refine At.does R R R R (jd (x := (.tv (kInt .i64) (0 : Int))) (ji _ _)) ?_
    refine At.done (At.vg (At.ret ?_))
    exact At.ret_2 rfl (rv_tmp rfl) (rv_tmp rfl) [0] rfl ⟨(r16, (0 : Int)), _, hF, rfl, rfl⟩
def vn.c4 (t18 : Int) (A1 : (List ((Int × Int) × Int)) → Int → W (List ((Int × Int) × Int))) (x33 : (List ((Int × Int) × Int))) : W (List ((Int × Int) × Int)) := A1 x33 (w64 (t18 + (1 : Int)))
def vn.l2 (all1 : (List Segment)) (list1 : (List Int)) (t18 : Int) (K4 : (List ((Int × Int) × Int)) → W (List ((Int × Int) × Int))) (A2 : (List ((Int × Int) × Int)) → Int → W (List ((Int × Int) × Int))) (x36 : (List ((Int × Int) × Int))) (t24 : Int) : W (List ((Int × Int) × Int)) := W.ite (decide (t24 < ((cut_l list1 (w64 (t18 + (1 : Int)))).length : Int))) (W.req (0 ≤ t24 ∧ t24 < ((cut_l list1 (w64 (t18 + (1 : Int)))).length : Int)) (W.req (0 ≤ (rd (0 : Int) list1 t18) ∧ (rd (0 : Int) list1 t18) < (all1.length : Int)) (W.req (0 ≤ (rd (0 : Int) (cut_l list1 (w64 (t18 + (1 : Int)))) t24) ∧ (rd (0 : Int) (cut_l list1 (w64 (t18 + (1 : Int)))) t24) < (all1.length : Int)) (W.bind (geom_Meets.F (rd zSegment all1 (rd (0 : Int) list1 t18)) (rd zSegment all1 (rd (0 : Int) (cut_l list1 (w64 (t18 + (1 : Int)))) t24))) (fun r12 => W.ite (r12 != (0 : Int)) (A2 (mset ((rd (0 : Int) list1 t18), (rd (0 : Int) (cut_l list1 (w64 (t18 + (1 : Int)))) t24)) r12 x36) (w64 (t24 + (1 : Int)))) (A2 x36 (w64 (t24 + (1 : Int))))))))) (K4 x36)
def vn.l1 (all1 : (List Segment)) (list1 : (List Int)) (A1 : (List ((Int × Int) × Int)) → Int → W (List ((Int × Int) × Int))) (x29 : (List ((Int × Int) × Int))) (t18 : Int) : W (List ((Int × Int) × Int)) := W.ite (decide (t18 < (list1.length : Int))) (W.req (0 ≤ t18 ∧ t18 < (list1.length : Int)) (W.req (0 ≤ (w64 (t18 + (1 : Int))) ∧ (w64 (t18 + (1 : Int))) ≤ (list1.length : Int)) (W.ex fun n => W.iter2 (vn.l2 all1 list1 t18 (vn.c4 t18 A1)) n x29 (0 : Int)))) (W.ret x29)
def vn.c3 (self : (List Segment) → (List Int) → (List ((Int × Int) × Int)) → W (List ((Int × Int) × Int))) (all1 : (List Segment)) (list1 : (List Int)) (found1 : (List ((Int × Int) × Int))) (x17 : (List Int)) (x18 : (List Int)) : W (List ((Int × Int) × Int)) := W.ite ((decide ((x17.length : Int) < (list1.length : Int))) && (decide ((x18.length : Int) < (list1.length : Int)))) (W.bind (self all1 x17 found1) (fun r2 => W.bind (self all1 x18 r2) (fun r3 => W.ret r3))) (W.ex fun n => W.iter2 (vn.l1 all1 list1) n found1 (0 : Int))
def vn.c5 (all1 : (List Segment)) (list1 : (List Int)) (low6 : Int) (high6 : Int) (x44 : (List Int)) (t27 : Int) (A3 : (List Int) → (List Int) → Int → W (List ((Int × Int) × Int))) (x45 : (List Int)) : W (List ((Int × Int) × Int)) := W.req (0 ≤ (rd (0 : Int) list1 t27) ∧ (rd (0 : Int) list1 t27) < (all1.length : Int)) (W.ite (decide ((w64 (low6 + (w64 (Int.tdiv (w64 (high6 - low6)) (2 : Int))))) < (if (((rd zSegment all1 (rd (0 : Int) list1 t27)).A).X) < (((rd zSegment all1 (rd (0 : Int) list1 t27)).B).X) then (((rd zSegment all1 (rd (0 : Int) list1 t27)).B).X) else (((rd zSegment all1 (rd (0 : Int) list1 t27)).A).X)))) (W.req ((x44.length + ([(rd (0 : Int) list1 t27)] : List Int).length) * 8 ≤ 140737488355328 ∧ x44.length + ([(rd (0 : Int) list1 t27)] : List Int).length ≤ 140737488355328) (A3 x45 (x44 ++ ([(rd (0 : Int) list1 t27)] : List Int)) (w64 (t27 + (1 : Int))))) (A3 x45 x44 (w64 (t27 + (1 : Int)))))
def vn.l3 (all1 : (List Segment)) (list1 : (List Int)) (low6 : Int) (high6 : Int) (K3 : (List Int) → (List Int) → W (List ((Int × Int) × Int))) (A3 : (List Int) → (List Int) → Int → W (List ((Int × Int) × Int))) (x43 : (List Int)) (x44 : (List Int)) (t27 : Int) : W (List ((Int × Int) × Int)) := W.ite (decide (t27 < (list1.length : Int))) (W.req (0 ≤ t27 ∧ t27 < (list1.length : Int)) (W.req (0 ≤ (rd (0 : Int) list1 t27) ∧ (rd (0 : Int) list1 t27) < (all1.length : Int)) (W.ite (decide ((if (((rd zSegment all1 (rd (0 : Int) list1 t27)).B).X) < (((rd zSegment all1 (rd (0 : Int) list1 t27)).A).X) then (((rd zSegment all1 (rd (0 : Int) list1 t27)).B).X) else (((rd zSegment all1 (rd (0 : Int) list1 t27)).A).X)) ≤ (w64 (low6 + (w64 (Int.tdiv (w64 (high6 - low6)) (2 : Int))))))) (W.req ((x43.length + ([(rd (0 : Int) list1 t27)] : List Int).length) * 8 ≤ 140737488355328 ∧ x43.length + ([(rd (0 : Int) list1 t27)] : List Int).length ≤ 140737488355328) ((vn.c5 all1 list1 low6 high6 x44 t27 A3) (x43 ++ ([(rd (0 : Int) list1 t27)] : List Int)))) ((vn.c5 all1 list1 low6 high6 x44 t27 A3) x43)))) (K3 x43 x44)
def vn.c2 (self : (List Segment) → (List Int) → (List ((Int × Int) × Int)) → W (List ((Int × Int) × Int))) (all1 : (List Segment)) (list1 : (List Int)) (found1 : (List ((Int × Int) × Int))) (low6 : Int) (high6 : Int) : W (List ((Int × Int) × Int)) := W.ex fun n => W.iter3 (vn.l3 all1 list1 low6 high6 (vn.c3 self all1 list1 found1)) n ([] : List Int) ([] : List Int) (0 : Int)
def vn.c6 (x49 : (List ((Int × Int) × Int))) : W (List ((Int × Int) × Int)) := W.ret x49
def vn.l4 (list1 : (List Int)) (r13 : ((List Meet) × Int)) (K6 : (List ((Int × Int) × Int)) → W (List ((Int × Int) × Int))) (A4 : (List ((Int × Int) × Int)) → Int → W (List ((Int × Int) × Int))) (x52 : (List ((Int × Int) × Int))) (t33 : Int) : W (List ((Int × Int) × Int)) := W.ite (decide (t33 < (r13.1.length : Int))) (W.req (0 ≤ t33 ∧ t33 < (r13.1.length : Int)) (W.req (0 ≤ t33 ∧ t33 < (r13.1.length : Int)) (W.req (0 ≤ ((rd zMeet r13.1 t33).A) ∧ ((rd zMeet r13.1 t33).A) < (list1.length : Int)) (W.req (0 ≤ ((rd zMeet r13.1 t33).B) ∧ ((rd zMeet r13.1 t33).B) < (list1.length : Int)) (A4 (mset ((rd (0 : Int) list1 ((rd zMeet r13.1 t33).A)), (rd (0 : Int) list1 ((rd zMeet r13.1 t33).B))) ((rd zMeet r13.1 t33).Kind) x52) (w64 (t33 + (1 : Int)))))))) (K6 x52)
def vn.c1 (self : (List Segment) → (List Int) → (List ((Int × Int) × Int)) → W (List ((Int × Int) × Int))) (all1 : (List Segment)) (list1 : (List Int)) (found1 : (List ((Int × Int) × Int))) (x4 : (List Segment)) (low6 : Int) (high6 : Int) : W (List ((Int × Int) × Int)) := W.ite (decide ((x4.length : Int) ≤ (20000 : Int))) (W.bind (sweep_All.F x4) (fun r13 => W.ex fun n => W.iter2 (vn.l4 list1 r13 (vn.c6)) n found1 (0 : Int))) ((vn.c2 self all1 list1 found1 low6 high6))
def vn.c7 (all1 : (List Segment)) (list1 : (List Int)) (x55 : (List Segment)) (t36 : Int) (A5 : (List Segment) → Int → Int → Int → W (List ((Int × Int) × Int))) (low12 : Int) (high12 : Int) : W (List ((Int × Int) × Int)) := A5 (x55 ++ ([(rd zSegment all1 (rd (0 : Int) list1 t36))] : List Segment)) (iMin [low12, (rd zSegment all1 (rd (0 : Int) list1 t36)).A.X, (rd zSegment all1 (rd (0 : Int) list1 t36)).B.X]) (iMax [high12, (rd zSegment all1 (rd (0 : Int) list1 t36)).A.X, (rd zSegment all1 (rd (0 : Int) list1 t36)).B.X]) (w64 (t36 + (1 : Int)))
def vn.l5 (all1 : (List Segment)) (list1 : (List Int)) (K1 : (List Segment) → Int → Int → W (List ((Int × Int) × Int))) (A5 : (List Segment) → Int → Int → Int → W (List ((Int × Int) × Int))) (x55 : (List Segment)) (low11 : Int) (high11 : Int) (t36 : Int) : W (List ((Int × Int) × Int)) := W.ite (decide (t36 < (list1.length : Int))) (W.req (0 ≤ t36 ∧ t36 < (list1.length : Int)) (W.req (0 ≤ (rd (0 : Int) list1 t36) ∧ (rd (0 : Int) list1 t36) < (all1.length : Int)) (W.req ((x55.length + ([(rd zSegment all1 (rd (0 : Int) list1 t36))] : List Segment).length) * 32 ≤ 140737488355328 ∧ x55.length + ([(rd zSegment all1 (rd (0 : Int) list1 t36))] : List Segment).length ≤ 140737488355328) (W.ite (t36 == (0 : Int)) ((vn.c7 all1 list1 x55 t36 A5) (if ((rd zSegment all1 (rd (0 : Int) list1 t36)).B.X) < ((rd zSegment all1 (rd (0 : Int) list1 t36)).A.X) then ((rd zSegment all1 (rd (0 : Int) list1 t36)).B.X) else ((rd zSegment all1 (rd (0 : Int) list1 t36)).A.X)) (if ((rd zSegment all1 (rd (0 : Int) list1 t36)).A.X) < ((rd zSegment all1 (rd (0 : Int) list1 t36)).B.X) then ((rd zSegment all1 (rd (0 : Int) list1 t36)).B.X) else ((rd zSegment all1 (rd (0 : Int) list1 t36)).A.X))) ((vn.c7 all1 list1 x55 t36 A5) low11 high11))))) (K1 x55 low11 high11)
def vn.G (self : (List Segment) → (List Int) → (List ((Int × Int) × Int)) → W (List ((Int × Int) × Int))) (all1 : (List Segment)) (list1 : (List Int)) (found1 : (List ((Int × Int) × Int))) : W (List ((Int × Int) × Int)) := W.ex fun n => W.iter4 (vn.l5 all1 list1 (vn.c1 self all1 list1 found1)) n ([] : List Segment) (0 : Int) (0 : Int) (0 : Int)
def vn.Fn : Nat → (List Segment) → (List Int) → (List ((Int × Int) × Int)) → W (List ((Int × Int) × Int))
 | 0 => fun _ _ _ => W.fail
 | n + 1 => vn.G (vn.Fn n)
def vn.F (all1 : (List Segment)) (list1 : (List Int)) (found1 : (List ((Int × Int) × Int))) : W (List ((Int × Int) × Int)) := W.ex fun n => vn.Fn n all1 list1 found1
theorem vn.okn (n : Nat) : ∀ {all1 : (List Segment)} {list1 : (List Int)} {found1 : (List ((Int × Int) × Int))} {g1 : Nat} {Q : (List ((Int × Int) × Int)) → Prop}, vn.Fn n all1 list1 found1 Q → Con Tryz.prog 37 [.tv (kSlice kSegment) all1, .tv (kSlice (kInt .i64)) list1, .eq (.map (some g1))] [.map g1 (kPair (kInt .i64) (kInt .i64)) (kInt .i64) found1] (fun ta rs' => ∃ (r : (List ((Int × Int) × Int))), Q r ∧ ta = .eq (.tuple #[]) ∧ rs' = [.map g1 (kPair (kInt .i64) (kInt .i64)) (kInt .i64) r]) := by
 induction n with
 | zero => intro all1 list1 found1 g1 Q hF; exact False.elim hF
 | succ n ih =>
  intro all1 list1 found1 g1 Q hF
  replace hF : vn.G (vn.Fn n) all1 list1 found1 Q := hF
  refine Con.intro' Tryz.func37 Tryz.ntmps37 R R (fun C => ?_)
  unfold vn.G at hF
  refine At.seq (At.region (At.does R R R R (jd (x := (.eq (.slice none 0 0))) (opd_eq _)) ?_))
  refine At.done (At.vg (At.seq (At.region (At.does R R R R (jd (x := (.tv (kInt .i64) (0 : Int))) (ji _ _)) ?_))))
  refine At.does R R R R (jd (x := (.tv (kInt .i64) (0 : Int))) (ji _ _)) ?_
  refine At.done (At.vg ?_)
  refine At.cut (fun rs L => ∃ (x4 : (List Segment)) (v8 : Value) (low6 : Int) (high6 : Int), vn.c1 (vn.Fn n) all1 list1 found1 x4 low6 high6 Q ∧ rs = [.map g1 (kPair (kInt .i64) (kInt .i64)) (kInt .i64) found1, .row v8 39 kSegment x4] ∧ L = mkL [(0, (.tv (kSlice kSegment) all1)), (1, (.tv (kSlice (kInt .i64)) list1)), (2, (.eq (.map (some g1)))), (6, (.eq v8)), (7, (.tv (kInt .i64) low6)), (8, (.tv (kInt .i64) high6))]) ?_ ?_
  ·refine At.seq (At.region (At.does R R R R (jb (x := (.tv (kSlice (kInt .i64)) list1)) (ja R)) ?_))
   refine At.does R R R R (js (ja R) Tryz.underlying89) ?_
   refine At.does R R R R (jb (x := (.tv (kInt .i64) (0 : Int))) (ji _ _)) ?_
   refine At.done (At.vg (At.block ?_))
   refine At.nilrow 39 kSegment ?_
   obtain ⟨n5, hF⟩ := hF
   refine At.weaken [1, 0] R [(0, (.tv (kSlice kSegment) all1)), (1, (.tv (kSlice (kInt .i64)) list1)), (2, (.eq (.map (some g1)))), (6, (.eq (.slice none 0 0))), (7, (.tv (kInt .i64) (0 : Int))), (8, (.tv (kInt .i64) (0 : Int))), (26, (.tv (kSlice (kInt .i64)) list1)), (27, (.tv (kInt .i64) (list1.length : Int))), (28, (.tv (kInt .i64) (0 : Int)))] ⟨R, R, R, R, R, R, R, R, R, trivial⟩ ?_
   refine At.loop (fun m rs L => ∃ (x55 : (List Segment)) (v58 : Value) (low11 : Int) (high11 : Int) (t36 : Int), W.iter4 (vn.l5 all1 list1 (vn.c1 (vn.Fn n) all1 list1 found1)) m x55 low11 high11 t36 Q ∧ rs = [.map g1 (kPair (kInt .i64) (kInt .i64)) (kInt .i64) found1, .row v58 39 kSegment x55] ∧ L = mkL [(0, (.tv (kSlice kSegment) all1)), (1, (.tv (kSlice (kInt .i64)) list1)), (2, (.eq (.map (some g1)))), (6, (.eq v58)), (7, (.tv (kInt .i64) low11)), (8, (.tv (kInt .i64) high11)), (26, (.tv (kSlice (kInt .i64)) list1)), (27, (.tv (kInt .i64) (list1.length : Int))), (28, (.tv (kInt .i64) t36))]) ?_ ?_ (m := n5) ⟨([] : List Segment), (.slice none 0 0), (0 : Int), (0 : Int), (0 : Int), hF, R, R⟩
   ·rintro rs L ⟨_, _, _, _, _, hF, _, _⟩; exact hF
   ·rintro m5 _ _ ⟨x55, v58, low11, high11, t36, hF, rfl, rfl⟩
    replace hF := W.iter4_s hF
    unfold vn.l5 at hF
    refine At.seq (At.region (At.does R R R R (jk (ja R) (ja R) vc) ?_))
    refine At.done (At.vg (At.seq ?_))
    refine At.cond (ja R) (fun hb56 => ?_) (fun hb56 => ?_)
    ·replace hF := W.ite_t hb56 hF
     refine At.skip (At.vg (At.seq (At.block (At.seq (At.region (At.does R R R R (jb (x := (.tv (kInt .i64) t36)) (ja R)) ?_))))))
     obtain ⟨hq103, hF⟩ := hF
     refine At.does R R R R (ve (0 : Int) (ja R) (ja R) Tryz.underlying89 ty_3 hq103) ?_
     refine At.does R R R R (vp (K := (kInt .i64)) (ja R) ty_3) ?_
     refine At.does R R R R (jd (x := (.tv (kInt .i64) t36)) (ja R)) ?_
     refine At.does R R R R (jd (x := (.tv (kInt .i64) (rd (0 : Int) list1 t36))) (ja R)) ?_
     refine At.done (At.vg (At.seq (At.region (At.does R R R R (jb (x := (.tv (kSlice kSegment) all1)) (ja R)) ?_))))
     refine At.does R R R R (jb (x := (.tv (kInt .i64) (rd (0 : Int) list1 t36))) (ja R)) ?_
     obtain ⟨hq104, hF⟩ := hF
     refine At.does R R R R (ve zSegment (ja R) (ja R) Tryz.underlying27 ty_39 hq104) ?_
     refine At.does R R R R (vp (K := kSegment) (ja R) ty_39) ?_
     refine At.eff R (eff_alloc R R R tz_39) ?_
     rintro _ _ ⟨g13, rfl, rfl⟩
     refine At.eff R (jx R R (ja R) 0 R (Sub.self kSegment) ty_39 (ja R)) ?_
     rintro _ _ ⟨rfl, rfl⟩
     refine At.done (At.vg (At.seq (At.region (At.does R R R R (jb (x := (.eq v58)) (ja R)) ?_))))
     refine At.does R R R R (jc (ja R) 0 R (Sub.self kSegment) ty_39) ?_
     refine At.eff R (eff_lit R R R (os := [.tmp 38]) R sl_27 (xs := ([(rd zSegment all1 (rd (0 : Int) list1 t36))] : List Segment)) (jf (ja R) jg) R R) ?_
     rintro _ _ ⟨v59, rfl, rfl⟩
     obtain ⟨hq105, hF⟩ := hF
     refine At.eff R (eff_append_row R R R 3 0 R R (ja R) (ja R) sl_27 hq105) ?_
     rintro _ _ ⟨v60, rfl, rfl⟩
     refine At.does R R R R (jd (x := (.eq v60)) (ja R)) ?_
     refine At.done (At.vg ?_)
     refine At.cut (fun rs L => ∃ (low12 : Int) (high12 : Int), vn.c7 all1 list1 x55 t36 (W.iter4 (vn.l5 all1 list1 (vn.c1 (vn.Fn n) all1 list1 found1)) m5) low12 high12 Q ∧ rs = [.map g1 (kPair (kInt .i64) (kInt .i64)) (kInt .i64) found1, .row v60 39 kSegment (x55 ++ ([(rd zSegment all1 (rd (0 : Int) list1 t36))] : List Segment)), .box g13 39 kSegment (rd zSegment all1 (rd (0 : Int) list1 t36))] ∧ L = mkL [(0, (.tv (kSlice kSegment) all1)), (1, (.tv (kSlice (kInt .i64)) list1)), (2, (.eq (.map (some g1)))), (6, (.eq v60)), (7, (.tv (kInt .i64) low12)), (8, (.tv (kInt .i64) high12)), (11, (.eq (.pointer (some ⟨g13, 0, none⟩)))), (26, (.tv (kSlice (kInt .i64)) list1)), (27, (.tv (kInt .i64) (list1.length : Int))), (28, (.tv (kInt .i64) t36))]) ?_ ?_
     ·refine At.seq (At.region (At.does R R R R (jb (x := (.tv (kInt .i64) t36)) (ja R)) ?_))
      refine At.does R R R R (jk (ja R) (ji _ _) bin_eql) ?_
      refine At.done (At.vg ?_)
      refine At.cond (ja R) (fun hb58 => ?_) (fun hb58 => ?_)
      ·replace hF := W.ite_t hb58 hF
       refine At.draw mixed [0, 1, 2, 3] R [[], [], [], []] (fun φ w hgd => ?_)
       refine AtH.take [0, 1, 2, 3] hgd 0 R R R R (D' := #[Y,N,N,N,N,N,N,N,N,N,N,N,N,N,N,N]) (by kernel_rfl) (fun _ _ _ _ h => h) R (je (ja R) fa_39_0) ?_
       refine AtH.take [0, 1, 2, 3] hgd 1 R R R R (D' := #[Y,Y,N,N,N,N,N,N,N,N,N,N,N,N,N,N]) (by kernel_rfl) (fun _ _ _ _ h => h) R (je (ja R) fa_37_0) ?_
       refine AtH.take [0, 1, 2, 3] hgd 2 R R R R (D' := #[Y,Y,Y,N,N,N,N,N,N,N,N,N,N,N,N,N]) (by kernel_rfl) (fun _ _ _ _ h => h) R (jc (ja R) 1 R sub_Segment_0_0 ty_3) ?_
       refine AtH.take [0, 1, 2, 3] hgd 3 R R R R (D' := #[Y,Y,Y,Y,N,N,N,N,N,N,N,N,N,N,N,N]) (by kernel_rfl) (fun _ _ _ _ h => h) R (je (ja R) fa_39_1) ?_
       refine AtH.take [0, 1, 2, 3] hgd 4 R R R R (D' := #[Y,Y,Y,Y,Y,N,N,N,N,N,N,N,N,N,N,N]) (by kernel_rfl) (fun _ _ _ _ h => h) R (je (ja R) fa_37_0) ?_
       refine AtH.take [0, 1, 2, 3] hgd 5 R R R R (D' := #[Y,Y,Y,Y,Y,Y,N,N,N,N,N,N,N,N,N,N]) (by kernel_rfl) (fun _ _ _ _ h => h) R (jc (ja R) 1 R sub_Segment_1_0 ty_3) ?_
       refine AtH.take [0, 1, 2, 3] hgd 6 R R R R (D' := #[Y,Y,Y,Y,Y,Y,Y,N,N,N,N,N,N,N,N,N]) (by kernel_rfl) (fun _ _ _ _ h => h) R (does_min (ja R) (ja R)) ?_
       refine AtH.take [0, 1, 2, 3] hgd 7 R R R R (D' := #[Y,Y,Y,Y,Y,Y,Y,Y,N,N,N,N,N,N,N,N]) (by kernel_rfl) (fun _ _ _ _ h => h) R (je (ja R) fa_39_0) ?_
       refine AtH.take [0, 1, 2, 3] hgd 8 R R R R (D' := #[Y,Y,Y,Y,Y,Y,Y,Y,Y,N,N,N,N,N,N,N]) (by kernel_rfl) (fun _ _ _ _ h => h) R (je (ja R) fa_37_0) ?_
       refine AtH.take [0, 1, 2, 3] hgd 9 R R R R (D' := #[Y,Y,Y,Y,Y,Y,Y,Y,Y,Y,N,N,N,N,N,N]) (by kernel_rfl) (fun _ _ _ _ h => h) R (jc (ja R) 1 R sub_Segment_0_0 ty_3) ?_
       refine AtH.take [0, 1, 2, 3] hgd 10 R R R R (D' := #[Y,Y,Y,Y,Y,Y,Y,Y,Y,Y,Y,N,N,N,N,N]) (by kernel_rfl) (fun _ _ _ _ h => h) R (je (ja R) fa_39_1) ?_
       refine AtH.take [0, 1, 2, 3] hgd 11 R R R R (D' := #[Y,Y,Y,Y,Y,Y,Y,Y,Y,Y,Y,Y,N,N,N,N]) (by kernel_rfl) (fun _ _ _ _ h => h) R (je (ja R) fa_37_0) ?_
       refine AtH.take [0, 1, 2, 3] hgd 12 R R R R (D' := #[Y,Y,Y,Y,Y,Y,Y,Y,Y,Y,Y,Y,Y,N,N,N]) (by kernel_rfl) (fun _ _ _ _ h => h) R (jc (ja R) 1 R sub_Segment_1_0 ty_3) ?_
       refine AtH.take [0, 1, 2, 3] hgd 13 R R R R (D' := #[Y,Y,Y,Y,Y,Y,Y,Y,Y,Y,Y,Y,Y,Y,N,N]) (by kernel_rfl) (fun _ _ _ _ h => h) R (does_max (ja R) (ja R)) ?_
       refine AtH.take [0, 1, 2, 3] hgd 14 R R R R (D' := #[Y,Y,Y,Y,Y,Y,Y,Y,Y,Y,Y,Y,Y,Y,Y,N]) (by kernel_rfl) (fun _ _ _ _ h => h) R (jd (x := (.tv (kInt .i64) (if ((rd zSegment all1 (rd (0 : Int) list1 t36)).B.X) < ((rd zSegment all1 (rd (0 : Int) list1 t36)).A.X) then ((rd zSegment all1 (rd (0 : Int) list1 t36)).B.X) else ((rd zSegment all1 (rd (0 : Int) list1 t36)).A.X)))) (ja R)) ?_
       refine AtH.take [0, 1, 2, 3] hgd 15 R R R R (D' := #[Y,Y,Y,Y,Y,Y,Y,Y,Y,Y,Y,Y,Y,Y,Y,Y]) (by kernel_rfl) (fun _ _ _ _ h => h) R (jd (x := (.tv (kInt .i64) (if ((rd zSegment all1 (rd (0 : Int) list1 t36)).A.X) < ((rd zSegment all1 (rd (0 : Int) list1 t36)).B.X) then ((rd zSegment all1 (rd (0 : Int) list1 t36)).B.X) else ((rd zSegment all1 (rd (0 : Int) list1 t36)).A.X)))) (ja R)) ?_
       refine AtH.done (by kernel_rfl) ?_
       refine At.vg ?_
       refine At.weaken [2, 3, 1] R [(0, (.tv (kSlice kSegment) all1)), (1, (.tv (kSlice (kInt .i64)) list1)), (2, (.eq (.map (some g1)))), (6, (.eq v60)), (7, (.tv (kInt .i64) (if ((rd zSegment all1 (rd (0 : Int) list1 t36)).B.X) < ((rd zSegment all1 (rd (0 : Int) list1 t36)).A.X) then ((rd zSegment all1 (rd (0 : Int) list1 t36)).B.X) else ((rd zSegment all1 (rd (0 : Int) list1 t36)).A.X)))), (8, (.tv (kInt .i64) (if ((rd zSegment all1 (rd (0 : Int) list1 t36)).A.X) < ((rd zSegment all1 (rd (0 : Int) list1 t36)).B.X) then ((rd zSegment all1 (rd (0 : Int) list1 t36)).B.X) else ((rd zSegment all1 (rd (0 : Int) list1 t36)).A.X)))), (11, (.eq (.pointer (some ⟨g13, 0, none⟩)))), (26, (.tv (kSlice (kInt .i64)) list1)), (27, (.tv (kInt .i64) (list1.length : Int))), (28, (.tv (kInt .i64) t36))] ⟨R, R, R, R, R, R, R, R, R, R, trivial⟩ (At.reach ⟨(if ((rd zSegment all1 (rd (0 : Int) list1 t36)).B.X) < ((rd zSegment all1 (rd (0 : Int) list1 t36)).A.X) then ((rd zSegment all1 (rd (0 : Int) list1 t36)).B.X) else ((rd zSegment all1 (rd (0 : Int) list1 t36)).A.X)), (if ((rd zSegment all1 (rd (0 : Int) list1 t36)).A.X) < ((rd zSegment all1 (rd (0 : Int) list1 t36)).B.X) then ((rd zSegment all1 (rd (0 : Int) list1 t36)).B.X) else ((rd zSegment all1 (rd (0 : Int) list1 t36)).A.X)), hF, R, R⟩)
      ·replace hF := W.ite_f hb58 hF
       refine At.skip (At.vg ?_)
       refine At.weaken [2, 3, 1] R [(0, (.tv (kSlice kSegment) all1)), (1, (.tv (kSlice (kInt .i64)) list1)), (2, (.eq (.map (some g1)))), (6, (.eq v60)), (7, (.tv (kInt .i64) low11)), (8, (.tv (kInt .i64) high11)), (11, (.eq (.pointer (some ⟨g13, 0, none⟩)))), (26, (.tv (kSlice (kInt .i64)) list1)), (27, (.tv (kInt .i64) (list1.length : Int))), (28, (.tv (kInt .i64) t36))] ⟨R, R, R, R, R, R, R, R, R, R, trivial⟩ (At.reach ⟨low11, high11, hF, R, R⟩)
     ·rintro _ _ ⟨low12, high12, hF, rfl, rfl⟩
      unfold vn.c7 at hF
      refine At.draw mixed [0, 1, 2] R [[], [], []] (fun φ w hgd => ?_)
      refine AtH.take [0, 1, 2] hgd 0 R R R R (D' := #[Y,N,N,N,N,N,N,N,N,N,N,N,N,N,N,N,N,N]) (by kernel_rfl) (fun _ _ _ _ h => h) R (jb (x := (.tv (kInt .i64) low12)) (ja R)) ?_
      refine AtH.take [0, 1, 2] hgd 1 R R R R (D' := #[Y,Y,N,N,N,N,N,N,N,N,N,N,N,N,N,N,N,N]) (by kernel_rfl) (fun _ _ _ _ h => h) R (je (ja R) fa_39_0) ?_
      refine AtH.take [0, 1, 2] hgd 2 R R R R (D' := #[Y,Y,Y,N,N,N,N,N,N,N,N,N,N,N,N,N,N,N]) (by kernel_rfl) (fun _ _ _ _ h => h) R (je (ja R) fa_37_0) ?_
      refine AtH.take [0, 1, 2] hgd 3 R R R R (D' := #[Y,Y,Y,Y,N,N,N,N,N,N,N,N,N,N,N,N,N,N]) (by kernel_rfl) (fun _ _ _ _ h => h) R (jc (ja R) 2 R sub_Segment_0_0 ty_3) ?_
      refine AtH.take [0, 1, 2] hgd 4 R R R R (D' := #[Y,Y,Y,Y,Y,N,N,N,N,N,N,N,N,N,N,N,N,N]) (by kernel_rfl) (fun _ _ _ _ h => h) R (je (ja R) fa_39_1) ?_
      refine AtH.take [0, 1, 2] hgd 5 R R R R (D' := #[Y,Y,Y,Y,Y,Y,N,N,N,N,N,N,N,N,N,N,N,N]) (by kernel_rfl) (fun _ _ _ _ h => h) R (je (ja R) fa_37_0) ?_
      refine AtH.take [0, 1, 2] hgd 6 R R R R (D' := #[Y,Y,Y,Y,Y,Y,Y,N,N,N,N,N,N,N,N,N,N,N]) (by kernel_rfl) (fun _ _ _ _ h => h) R (jc (ja R) 2 R sub_Segment_1_0 ty_3) ?_
      refine AtH.take [0, 1, 2] hgd 7 R R R R (D' := #[Y,Y,Y,Y,Y,Y,Y,Y,N,N,N,N,N,N,N,N,N,N]) (by kernel_rfl) (fun _ _ _ _ h => h) R (does_mins (n := low12) (ns := [(rd zSegment all1 (rd (0 : Int) list1 t36)).A.X, (rd zSegment all1 (rd (0 : Int) list1 t36)).B.X]) (jf (ja R) (jf (ja R) (jf (ja R) jg)))) ?_
      refine AtH.take [0, 1, 2] hgd 8 R R R R (D' := #[Y,Y,Y,Y,Y,Y,Y,Y,Y,N,N,N,N,N,N,N,N,N]) (by kernel_rfl) (fun _ _ _ _ h => h) R (jb (x := (.tv (kInt .i64) high12)) (ja R)) ?_
      refine AtH.take [0, 1, 2] hgd 9 R R R R (D' := #[Y,Y,Y,Y,Y,Y,Y,Y,Y,Y,N,N,N,N,N,N,N,N]) (by kernel_rfl) (fun _ _ _ _ h => h) R (je (ja R) fa_39_0) ?_
      refine AtH.take [0, 1, 2] hgd 10 R R R R (D' := #[Y,Y,Y,Y,Y,Y,Y,Y,Y,Y,Y,N,N,N,N,N,N,N]) (by kernel_rfl) (fun _ _ _ _ h => h) R (je (ja R) fa_37_0) ?_
      refine AtH.take [0, 1, 2] hgd 11 R R R R (D' := #[Y,Y,Y,Y,Y,Y,Y,Y,Y,Y,Y,Y,N,N,N,N,N,N]) (by kernel_rfl) (fun _ _ _ _ h => h) R (jc (ja R) 2 R sub_Segment_0_0 ty_3) ?_
      refine AtH.take [0, 1, 2] hgd 12 R R R R (D' := #[Y,Y,Y,Y,Y,Y,Y,Y,Y,Y,Y,Y,Y,N,N,N,N,N]) (by kernel_rfl) (fun _ _ _ _ h => h) R (je (ja R) fa_39_1) ?_
      refine AtH.take [0, 1, 2] hgd 13 R R R R (D' := #[Y,Y,Y,Y,Y,Y,Y,Y,Y,Y,Y,Y,Y,Y,N,N,N,N]) (by kernel_rfl) (fun _ _ _ _ h => h) R (je (ja R) fa_37_0) ?_
      refine AtH.take [0, 1, 2] hgd 14 R R R R (D' := #[Y,Y,Y,Y,Y,Y,Y,Y,Y,Y,Y,Y,Y,Y,Y,N,N,N]) (by kernel_rfl) (fun _ _ _ _ h => h) R (jc (ja R) 2 R sub_Segment_1_0 ty_3) ?_
      refine AtH.take [0, 1, 2] hgd 15 R R R R (D' := #[Y,Y,Y,Y,Y,Y,Y,Y,Y,Y,Y,Y,Y,Y,Y,Y,N,N]) (by kernel_rfl) (fun _ _ _ _ h => h) R (does_maxs (n := high12) (ns := [(rd zSegment all1 (rd (0 : Int) list1 t36)).A.X, (rd zSegment all1 (rd (0 : Int) list1 t36)).B.X]) (jf (ja R) (jf (ja R) (jf (ja R) jg)))) ?_
      refine AtH.take [0, 1, 2] hgd 16 R R R R (D' := #[Y,Y,Y,Y,Y,Y,Y,Y,Y,Y,Y,Y,Y,Y,Y,Y,Y,N]) (by kernel_rfl) (fun _ _ _ _ h => h) R (jd (x := (.tv (kInt .i64) (iMin [low12, (rd zSegment all1 (rd (0 : Int) list1 t36)).A.X, (rd zSegment all1 (rd (0 : Int) list1 t36)).B.X]))) (ja R)) ?_
      refine AtH.take [0, 1, 2] hgd 17 R R R R (D' := #[Y,Y,Y,Y,Y,Y,Y,Y,Y,Y,Y,Y,Y,Y,Y,Y,Y,Y]) (by kernel_rfl) (fun _ _ _ _ h => h) R (jd (x := (.tv (kInt .i64) (iMax [high12, (rd zSegment all1 (rd (0 : Int) list1 t36)).A.X, (rd zSegment all1 (rd (0 : Int) list1 t36)).B.X]))) (ja R)) ?_
      refine AtH.done (by kernel_rfl) ?_
      refine At.block_normal ?_
      refine At.vg (At.region (At.does R R R R (jk (ja R) (ji _ _) jz) ?_))
      refine At.does R R R R (jb (x := (.tv (kInt .i64) (w64 (t36 + (1 : Int))))) (ja R)) ?_
      refine At.done (At.vg ?_)
      refine At.weaken [0, 1] R [(0, (.tv (kSlice kSegment) all1)), (1, (.tv (kSlice (kInt .i64)) list1)), (2, (.eq (.map (some g1)))), (6, (.eq v60)), (7, (.tv (kInt .i64) (iMin [low12, (rd zSegment all1 (rd (0 : Int) list1 t36)).A.X, (rd zSegment all1 (rd (0 : Int) list1 t36)).B.X]))), (8, (.tv (kInt .i64) (iMax [high12, (rd zSegment all1 (rd (0 : Int) list1 t36)).A.X, (rd zSegment all1 (rd (0 : Int) list1 t36)).B.X]))), (26, (.tv (kSlice (kInt .i64)) list1)), (27, (.tv (kInt .i64) (list1.length : Int))), (28, (.tv (kInt .i64) (w64 (t36 + (1 : Int)))))] ⟨R, R, R, R, R, R, R, R, R, trivial⟩ (At.reach ⟨(x55 ++ ([(rd zSegment all1 (rd (0 : Int) list1 t36))] : List Segment)), v60, (iMin [low12, (rd zSegment all1 (rd (0 : Int) list1 t36)).A.X, (rd zSegment all1 (rd (0 : Int) list1 t36)).B.X]), (iMax [high12, (rd zSegment all1 (rd (0 : Int) list1 t36)).A.X, (rd zSegment all1 (rd (0 : Int) list1 t36)).B.X]), (w64 (t36 + (1 : Int))), hF, R, R⟩)
    ·replace hF := W.ite_f hb56 hF
     refine At.exit ?_
     refine At.then_exit (At.then_exit ?_)
     refine At.block_here ?_
     refine At.vg ?_
     refine At.weaken [0, 1] R [(0, (.tv (kSlice kSegment) all1)), (1, (.tv (kSlice (kInt .i64)) list1)), (2, (.eq (.map (some g1)))), (6, (.eq v58)), (7, (.tv (kInt .i64) low11)), (8, (.tv (kInt .i64) high11))] ⟨R, R, R, R, R, R, trivial⟩ (At.reach ⟨x55, v58, low11, high11, hF, R, R⟩)
  ·rintro _ _ ⟨x4, v8, low6, high6, hF, rfl, rfl⟩
   unfold vn.c1 at hF
   refine At.cut (fun rs L => ∃ _ : Unit, vn.c2 (vn.Fn n) all1 list1 found1 low6 high6 Q ∧ rs = [.map g1 (kPair (kInt .i64) (kInt .i64)) (kInt .i64) found1] ∧ L = mkL [(0, (.tv (kSlice kSegment) all1)), (1, (.tv (kSlice (kInt .i64)) list1)), (2, (.eq (.map (some g1)))), (7, (.tv (kInt .i64) low6)), (8, (.tv (kInt .i64) high6))]) ?_ ?_
   ·refine At.seq (At.region (At.does R R R R (jb (x := (.eq v8)) (ja R)) ?_))
    refine At.does R R R R (does_len_row (ja R) 1 R Tryz.underlying27) ?_
    refine At.does R R R R (jk (ja R) (ji _ _) bin_leq) ?_
    refine At.done (At.vg ?_)
    refine At.cond (ja R) (fun hb46 => ?_) (fun hb46 => ?_)
    ·replace hF := W.ite_t hb46 hF
     refine At.seq (At.region (At.does R R R R (jb (x := (.eq v8)) (ja R)) ?_))
     refine At.freezes 1 [6, 74, 78] R ⟨R, R, R, trivial⟩ ?_
     replace hF := W.vl hF
     refine At.eff R (jo R R (jq R en_70 (jf (ja R) jg)) [] R (sweep_All.ok hF)) ?_
     rintro _ _ ⟨_, _, ⟨r13, v51, hF, rfl, rfl⟩, rfl, rfl⟩
     refine At.does R R R R (jb (x := (.tup2 (.eq v51) (.tv (kInt .i64) r13.2))) (ja R)) ?_
     refine At.does R R R R (does_extract20 (ja R)) ?_
     refine At.does R R R R (does_extract21 (ja R)) ?_
     refine At.does R R R R (jd (x := (.eq v51)) (ja R)) ?_
     refine At.does R R R R (jd (x := (.tv (kInt .i64) r13.2)) (ja R)) ?_
     refine At.done (At.vg ?_)
     refine At.cut (fun rs L => ∃ (x49 : (List ((Int × Int) × Int))), vn.c6 x49 Q ∧ rs = [.map g1 (kPair (kInt .i64) (kInt .i64)) (kInt .i64) x49] ∧ L = mkL []) ?_ ?_
     ·refine At.seq (At.region (At.does R R R R (jb (x := (.eq v51)) (ja R)) ?_))
      refine At.does R R R R (does_len_row (ja R) 0 R Tryz.underlying121) ?_
      refine At.does R R R R (jb (x := (.tv (kInt .i64) (0 : Int))) (ji _ _)) ?_
      refine At.done (At.vg (At.block ?_))
      obtain ⟨n4, hF⟩ := hF
      refine At.weaken [1, 0] R [(1, (.tv (kSlice (kInt .i64)) list1)), (2, (.eq (.map (some g1)))), (82, (.eq v51)), (83, (.tv (kInt .i64) (r13.1.length : Int))), (84, (.tv (kInt .i64) (0 : Int)))] ⟨R, R, R, R, R, trivial⟩ ?_
      refine At.loop (fun m rs L => ∃ (x52 : (List ((Int × Int) × Int))) (t33 : Int), W.iter2 (vn.l4 list1 r13 (vn.c6)) m x52 t33 Q ∧ rs = [.map g1 (kPair (kInt .i64) (kInt .i64)) (kInt .i64) x52, .row v51 125 kMeet r13.1] ∧ L = mkL [(1, (.tv (kSlice (kInt .i64)) list1)), (2, (.eq (.map (some g1)))), (82, (.eq v51)), (83, (.tv (kInt .i64) (r13.1.length : Int))), (84, (.tv (kInt .i64) t33))]) ?_ ?_ (m := n4) ⟨found1, (0 : Int), hF, R, R⟩
      ·rintro rs L ⟨_, _, hF, _, _⟩; exact hF
      ·rintro m4 _ _ ⟨x52, t33, hF, rfl, rfl⟩
       replace hF := W.iter2_s hF
       unfold vn.l4 at hF
       refine At.seq (At.region (At.does R R R R (jk (ja R) (ja R) vc) ?_))
       refine At.done (At.vg (At.seq ?_))
       refine At.cond (ja R) (fun hb51 => ?_) (fun hb51 => ?_)
       ·replace hF := W.ite_t hb51 hF
        refine At.skip (At.vg (At.seq (At.block (At.seq (At.region ?_)))))
        obtain ⟨hq93, hF⟩ := hF
        refine At.does R R R R (does_idx_row (ja R) 1 R (ja R) Tryz.underlying121 ty_125 hq93) ?_
        obtain ⟨hq94, hF⟩ := hF
        refine At.does R R R R (Jb (ja R) 1 R t33 0 R zMeet hq94 (Sub.self kMeet) ty_125) ?_
        refine At.eff R (eff_alloc R R R tz_125) ?_
        rintro _ _ ⟨g10, rfl, rfl⟩
        refine At.eff R (jx R R (ja R) 0 R (Sub.self kMeet) ty_125 (ja R)) ?_
        rintro _ _ ⟨rfl, rfl⟩
        refine At.done (At.vg ?_)
        refine At.draw mixed [0, 1, 2] R [[], [14], []] (fun φ w hgd => ?_)
        obtain ⟨hq95, hF⟩ := hF
        obtain ⟨hq96, hF⟩ := hF
        refine AtH.take [0, 1, 2] hgd 0 R R R R (D' := #[Y,N,N,N,N,N,N,N,N,N,N,N,N,N,N]) (by kernel_rfl) (fun _ _ _ _ h => h) R (jb (x := (.eq (.map (some g1)))) (ja R)) ?_
        refine AtH.take [0, 1, 2] hgd 1 R R R R (D' := #[Y,Y,N,N,N,N,N,N,N,N,N,N,N,N,N]) (by kernel_rfl) (fun _ _ _ _ h => h) R (jb (x := (.tv (kSlice (kInt .i64)) list1)) (ja R)) ?_
        refine AtH.take [0, 1, 2] hgd 2 R R R R (D' := #[Y,Y,Y,N,N,N,N,N,N,N,N,N,N,N,N]) (by kernel_rfl) (fun _ _ _ _ h => h) R (je (ja R) fa_125_0) ?_
        refine AtH.take [0, 1, 2] hgd 3 R R R R (D' := #[Y,Y,Y,Y,N,N,N,N,N,N,N,N,N,N,N]) (by kernel_rfl) (fun _ _ _ _ h => h) R (jc (ja R) 0 R sub_Meet_0 ty_3) ?_
        refine AtH.take [0, 1, 2] hgd 4 R R R R (D' := #[Y,Y,Y,Y,Y,N,N,N,N,N,N,N,N,N,N]) (by kernel_rfl) (fun _ _ _ _ h => h) R (ve (0 : Int) (ja R) (ja R) Tryz.underlying89 ty_3 hq95) ?_
        refine AtH.take [0, 1, 2] hgd 5 R R R R (D' := #[Y,Y,Y,Y,Y,Y,N,N,N,N,N,N,N,N,N]) (by kernel_rfl) (fun _ _ _ _ h => h) R (vp (K := (kInt .i64)) (ja R) ty_3) ?_
        refine AtH.take [0, 1, 2] hgd 6 R R R R (D' := #[Y,Y,Y,Y,Y,Y,Y,N,N,N,N,N,N,N,N]) (by kernel_rfl) (fun _ _ _ _ h => h) R (jb (x := (.tv (kSlice (kInt .i64)) list1)) (ja R)) ?_
        refine AtH.take [0, 1, 2] hgd 7 R R R R (D' := #[Y,Y,Y,Y,Y,Y,Y,Y,N,N,N,N,N,N,N]) (by kernel_rfl) (fun _ _ _ _ h => h) R (je (ja R) fa_125_1) ?_
        refine AtH.take [0, 1, 2] hgd 8 R R R R (D' := #[Y,Y,Y,Y,Y,Y,Y,Y,Y,N,N,N,N,N,N]) (by kernel_rfl) (fun _ _ _ _ h => h) R (jc (ja R) 0 R sub_Meet_1 ty_3) ?_
        refine AtH.take [0, 1, 2] hgd 9 R R R R (D' := #[Y,Y,Y,Y,Y,Y,Y,Y,Y,Y,N,N,N,N,N]) (by kernel_rfl) (fun _ _ _ _ h => h) R (ve (0 : Int) (ja R) (ja R) Tryz.underlying89 ty_3 hq96) ?_
        refine AtH.take [0, 1, 2] hgd 10 R R R R (D' := #[Y,Y,Y,Y,Y,Y,Y,Y,Y,Y,Y,N,N,N,N]) (by kernel_rfl) (fun _ _ _ _ h => h) R (vp (K := (kInt .i64)) (ja R) ty_3) ?_
        refine AtH.take [0, 1, 2] hgd 11 R R R R (D' := #[Y,Y,Y,Y,Y,Y,Y,Y,Y,Y,Y,Y,N,N,N]) (by kernel_rfl) (fun _ _ _ _ h => h) R (jy (jr (ja R) (jr (ja R) parts_nil)) zr_92 bd_92 R (fills_cons R sub_a92_0 (fills_cons R sub_a92_1 fills_nil))) ?_
        refine AtH.take [0, 1, 2] hgd 12 R R R R (D' := #[Y,Y,Y,Y,Y,Y,Y,Y,Y,Y,Y,Y,Y,N,N]) (by kernel_rfl) (fun _ _ _ _ h => h) R (je (ja R) fa_125_2) ?_
        refine AtH.take [0, 1, 2] hgd 13 R R R R (D' := #[Y,Y,Y,Y,Y,Y,Y,Y,Y,Y,Y,Y,Y,Y,N]) (by kernel_rfl) (fun _ _ _ _ h => h) R (jc (ja R) 0 R sub_Meet_2 ty_3) ?_
        refine AtH.all1 14 (by kernel_rfl) ?_
        refine AtH.eff0 [(0, 0), (2, 2)] R R R R R (eff_mapUpdate R R (ja R) 1 R mt_90 (ja R) (ja R)) (D' := #[Y,Y,Y,Y,Y,Y,Y,Y,Y,Y,Y,Y,Y,Y,Y]) (by kernel_rfl) (by kernel_rfl) ?_
        rintro _ _ ⟨rfl, rfl⟩
        refine AtH.done (by kernel_rfl) ?_
        refine At.block_normal ?_
        refine At.vg (At.region (At.does R R R R (jk (ja R) (ji _ _) jz) ?_))
        refine At.does R R R R (jb (x := (.tv (kInt .i64) (w64 (t33 + (1 : Int))))) (ja R)) ?_
        refine At.done (At.vg ?_)
        refine At.weaken [1, 2] R [(1, (.tv (kSlice (kInt .i64)) list1)), (2, (.eq (.map (some g1)))), (82, (.eq v51)), (83, (.tv (kInt .i64) (r13.1.length : Int))), (84, (.tv (kInt .i64) (w64 (t33 + (1 : Int)))))] ⟨R, R, R, R, R, trivial⟩ (At.reach ⟨(mset ((rd (0 : Int) list1 ((rd zMeet r13.1 t33).A)), (rd (0 : Int) list1 ((rd zMeet r13.1 t33).B))) ((rd zMeet r13.1 t33).Kind) x52), (w64 (t33 + (1 : Int))), hF, R, R⟩)
       ·replace hF := W.ite_f hb51 hF
        refine At.exit ?_
        refine At.then_exit (At.then_exit ?_)
        refine At.block_here ?_
        refine At.vg ?_
        refine At.weaken [0] R [] trivial (At.reach ⟨x52, hF, R, R⟩)
     ·rintro _ _ ⟨x49, hF, rfl, rfl⟩
      unfold vn.c6 at hF
      refine At.ret (At.vh ?_)
      exact At.ret_0 rfl  [0] rfl ⟨x49, hF, rfl, rfl⟩
    ·replace hF := W.ite_f hb46 hF
     refine At.skip (At.vg ?_)
     refine At.weaken [0] R [(0, (.tv (kSlice kSegment) all1)), (1, (.tv (kSlice (kInt .i64)) list1)), (2, (.eq (.map (some g1)))), (7, (.tv (kInt .i64) low6)), (8, (.tv (kInt .i64) high6))] ⟨R, R, R, R, R, trivial⟩ (At.reach ⟨(), hF, R, R⟩)
   ·rintro _ _ ⟨_, hF, rfl, rfl⟩
    unfold vn.c2 at hF
    refine At.seq (At.region (At.does R R R R (jd (x := (.eq (.slice none 0 0))) (opd_eq _)) ?_))
    refine At.does R R R R (jd (x := (.eq (.slice none 0 0))) (opd_eq _)) ?_
    refine At.done (At.vg (At.seq (At.region (At.does R R R R (jb (x := (.tv (kInt .i64) low6)) (ja R)) ?_))))
    refine At.does R R R R (jb (x := (.tv (kInt .i64) high6)) (ja R)) ?_
    refine At.does R R R R (jb (x := (.tv (kInt .i64) low6)) (ja R)) ?_
    refine At.does R R R R (jk (ja R) (ja R) bin_sub) ?_
    refine At.does R R R R (jk (ja R) (ji _ _) (bin_quo (by decide))) ?_
    refine At.does R R R R (jk (ja R) (ja R) jz) ?_
    refine At.does R R R R (jd (x := (.tv (kInt .i64) (w64 (low6 + (w64 (Int.tdiv (w64 (high6 - low6)) (2 : Int))))))) (ja R)) ?_
    refine At.done (At.vg ?_)
    refine At.cut (fun rs L => ∃ (x17 : (List Int)) (v26 : Value) (x18 : (List Int)) (v27 : Value), vn.c3 (vn.Fn n) all1 list1 found1 x17 x18 Q ∧ rs = [.map g1 (kPair (kInt .i64) (kInt .i64)) (kInt .i64) found1, .row v26 3 (kInt .i64) x17, .row v27 3 (kInt .i64) x18] ∧ L = mkL [(0, (.tv (kSlice kSegment) all1)), (1, (.tv (kSlice (kInt .i64)) list1)), (2, (.eq (.map (some g1)))), (16, (.eq v26)), (17, (.eq v27))]) ?_ ?_
    ·refine At.seq (At.region (At.does R R R R (jb (x := (.tv (kSlice (kInt .i64)) list1)) (ja R)) ?_))
     refine At.does R R R R (js (ja R) Tryz.underlying89) ?_
     refine At.does R R R R (jb (x := (.tv (kInt .i64) (0 : Int))) (ji _ _)) ?_
     refine At.done (At.vg (At.block ?_))
     refine At.nilrow 3 (kInt .i64) ?_
     refine At.nilrow 3 (kInt .i64) ?_
     obtain ⟨n3, hF⟩ := hF
     refine At.weaken [2, 1, 0] R [(0, (.tv (kSlice kSegment) all1)), (1, (.tv (kSlice (kInt .i64)) list1)), (2, (.eq (.map (some g1)))), (16, (.eq (.slice none 0 0))), (17, (.eq (.slice none 0 0))), (18, (.tv (kInt .i64) (w64 (low6 + (w64 (Int.tdiv (w64 (high6 - low6)) (2 : Int))))))), (109, (.tv (kSlice (kInt .i64)) list1)), (110, (.tv (kInt .i64) (list1.length : Int))), (111, (.tv (kInt .i64) (0 : Int)))] ⟨R, R, R, R, R, R, R, R, R, trivial⟩ ?_
     refine At.loop (fun m rs L => ∃ (x43 : (List Int)) (v42 : Value) (x44 : (List Int)) (v43 : Value) (t27 : Int), W.iter3 (vn.l3 all1 list1 low6 high6 (vn.c3 (vn.Fn n) all1 list1 found1)) m x43 x44 t27 Q ∧ rs = [.map g1 (kPair (kInt .i64) (kInt .i64)) (kInt .i64) found1, .row v42 3 (kInt .i64) x43, .row v43 3 (kInt .i64) x44] ∧ L = mkL [(0, (.tv (kSlice kSegment) all1)), (1, (.tv (kSlice (kInt .i64)) list1)), (2, (.eq (.map (some g1)))), (16, (.eq v42)), (17, (.eq v43)), (18, (.tv (kInt .i64) (w64 (low6 + (w64 (Int.tdiv (w64 (high6 - low6)) (2 : Int))))))), (109, (.tv (kSlice (kInt .i64)) list1)), (110, (.tv (kInt .i64) (list1.length : Int))), (111, (.tv (kInt .i64) t27))]) ?_ ?_ (m := n3) ⟨([] : List Int), (.slice none 0 0), ([] : List Int), (.slice none 0 0), (0 : Int), hF, R, R⟩
     ·rintro rs L ⟨_, _, _, _, _, hF, _, _⟩; exact hF
     ·rintro m3 _ _ ⟨x43, v42, x44, v43, t27, hF, rfl, rfl⟩
      replace hF := W.iter3_s hF
      unfold vn.l3 at hF
      refine At.seq (At.region (At.does R R R R (jk (ja R) (ja R) vc) ?_))
      refine At.done (At.vg (At.seq ?_))
      refine At.cond (ja R) (fun hb42 => ?_) (fun hb42 => ?_)
      ·replace hF := W.ite_t hb42 hF
       refine At.skip (At.vg (At.seq (At.block (At.seq (At.region ?_)))))
       obtain ⟨hq70, hF⟩ := hF
       refine At.does R R R R (ve (0 : Int) (ja R) (ja R) Tryz.underlying89 ty_3 hq70) ?_
       refine At.does R R R R (vp (K := (kInt .i64)) (ja R) ty_3) ?_
       refine At.does R R R R (jd (x := (.tv (kInt .i64) (rd (0 : Int) list1 t27))) (ja R)) ?_
       refine At.done (At.vg ?_)
       refine At.cut (fun rs L => ∃ (x45 : (List Int)) (v46 : Value), vn.c5 all1 list1 low6 high6 x44 t27 (W.iter3 (vn.l3 all1 list1 low6 high6 (vn.c3 (vn.Fn n) all1 list1 found1)) m3) x45 Q ∧ rs = [.map g1 (kPair (kInt .i64) (kInt .i64)) (kInt .i64) found1, .row v46 3 (kInt .i64) x45, .row v43 3 (kInt .i64) x44] ∧ L = mkL [(0, (.tv (kSlice kSegment) all1)), (1, (.tv (kSlice (kInt .i64)) list1)), (2, (.eq (.map (some g1)))), (16, (.eq v46)), (17, (.eq v43)), (18, (.tv (kInt .i64) (w64 (low6 + (w64 (Int.tdiv (w64 (high6 - low6)) (2 : Int))))))), (20, (.tv (kInt .i64) (rd (0 : Int) list1 t27))), (109, (.tv (kSlice (kInt .i64)) list1)), (110, (.tv (kInt .i64) (list1.length : Int))), (111, (.tv (kInt .i64) t27))]) ?_ ?_
       ·refine At.seq ?_
        refine At.draw mixed [0, 1, 2] R [[], [], []] (fun φ w hgd => ?_)
        obtain ⟨hq75, hF⟩ := hF
        refine AtH.take [0, 1, 2] hgd 0 R R R R (D' := #[Y,N,N,N,N,N,N,N,N,N,N,N,N,N,N]) (by kernel_rfl) (fun _ _ _ _ h => h) R (jb (x := (.tv (kSlice kSegment) all1)) (ja R)) ?_
        refine AtH.take [0, 1, 2] hgd 1 R R R R (D' := #[Y,Y,N,N,N,N,N,N,N,N,N,N,N,N,N]) (by kernel_rfl) (fun _ _ _ _ h => h) R (jb (x := (.tv (kInt .i64) (rd (0 : Int) list1 t27))) (ja R)) ?_
        refine AtH.take [0, 1, 2] hgd 2 R R R R (D' := #[Y,Y,Y,N,N,N,N,N,N,N,N,N,N,N,N]) (by kernel_rfl) (fun _ _ _ _ h => h) R (ve zSegment (ja R) (ja R) Tryz.underlying27 ty_39 hq75) ?_
        refine AtH.take [0, 1, 2] hgd 3 R R R R (D' := #[Y,Y,Y,Y,N,N,N,N,N,N,N,N,N,N,N]) (by kernel_rfl) (fun _ _ _ _ h => h) R (Jc (K := kSegment) (ja R) fa_39_0 vz) ?_
        refine AtH.take [0, 1, 2] hgd 4 R R R R (D' := #[Y,Y,Y,Y,Y,N,N,N,N,N,N,N,N,N,N]) (by kernel_rfl) (fun _ _ _ _ h => h) R (Jc (K := kPoint) (ja R) fa_37_0 sub_Point_0) ?_
        refine AtH.take [0, 1, 2] hgd 5 R R R R (D' := #[Y,Y,Y,Y,Y,Y,N,N,N,N,N,N,N,N,N]) (by kernel_rfl) (fun _ _ _ _ h => h) R (vp (K := (kInt .i64)) (ja R) ty_3) ?_
        refine AtH.take [0, 1, 2] hgd 6 R R R R (D' := #[Y,Y,Y,Y,Y,Y,Y,N,N,N,N,N,N,N,N]) (by kernel_rfl) (fun _ _ _ _ h => h) R (jb (x := (.tv (kSlice kSegment) all1)) (ja R)) ?_
        refine AtH.take [0, 1, 2] hgd 7 R R R R (D' := #[Y,Y,Y,Y,Y,Y,Y,Y,N,N,N,N,N,N,N]) (by kernel_rfl) (fun _ _ _ _ h => h) R (jb (x := (.tv (kInt .i64) (rd (0 : Int) list1 t27))) (ja R)) ?_
        refine AtH.take [0, 1, 2] hgd 8 R R R R (D' := #[Y,Y,Y,Y,Y,Y,Y,Y,Y,N,N,N,N,N,N]) (by kernel_rfl) (fun _ _ _ _ h => h) R (ve zSegment (ja R) (ja R) Tryz.underlying27 ty_39 hq75) ?_
        refine AtH.take [0, 1, 2] hgd 9 R R R R (D' := #[Y,Y,Y,Y,Y,Y,Y,Y,Y,Y,N,N,N,N,N]) (by kernel_rfl) (fun _ _ _ _ h => h) R (Jc (K := kSegment) (ja R) fa_39_1 Ja) ?_
        refine AtH.take [0, 1, 2] hgd 10 R R R R (D' := #[Y,Y,Y,Y,Y,Y,Y,Y,Y,Y,Y,N,N,N,N]) (by kernel_rfl) (fun _ _ _ _ h => h) R (Jc (K := kPoint) (ja R) fa_37_0 sub_Point_0) ?_
        refine AtH.take [0, 1, 2] hgd 11 R R R R (D' := #[Y,Y,Y,Y,Y,Y,Y,Y,Y,Y,Y,Y,N,N,N]) (by kernel_rfl) (fun _ _ _ _ h => h) R (vp (K := (kInt .i64)) (ja R) ty_3) ?_
        refine AtH.take [0, 1, 2] hgd 12 R R R R (D' := #[Y,Y,Y,Y,Y,Y,Y,Y,Y,Y,Y,Y,Y,N,N]) (by kernel_rfl) (fun _ _ _ _ h => h) R (does_min (ja R) (ja R)) ?_
        refine AtH.take [0, 1, 2] hgd 13 R R R R (D' := #[Y,Y,Y,Y,Y,Y,Y,Y,Y,Y,Y,Y,Y,Y,N]) (by kernel_rfl) (fun _ _ _ _ h => h) R (jb (x := (.tv (kInt .i64) (w64 (low6 + (w64 (Int.tdiv (w64 (high6 - low6)) (2 : Int))))))) (ja R)) ?_
        refine AtH.take [0, 1, 2] hgd 14 R R R R (D' := #[Y,Y,Y,Y,Y,Y,Y,Y,Y,Y,Y,Y,Y,Y,Y]) (by kernel_rfl) (fun _ _ _ _ h => h) R (jk (ja R) (ja R) bin_leq) ?_
        refine AtH.done (by kernel_rfl) ?_
        refine At.vg ?_
        refine At.cond (ja R) (fun hb45 => ?_) (fun hb45 => ?_)
        ·replace hF := W.ite_t hb45 hF
         refine At.region (At.does R R R R (jb (x := (.eq v42)) (ja R)) ?_)
         refine At.does R R R R (jb (x := (.tv (kInt .i64) (rd (0 : Int) list1 t27))) (ja R)) ?_
         refine At.eff R (eff_lit R R R (os := [.tmp 131]) R sl_89 (xs := ([(rd (0 : Int) list1 t27)] : List Int)) (jf (ja R) jg) R R) ?_
         rintro _ _ ⟨v49, rfl, rfl⟩
         obtain ⟨hq76, hF⟩ := hF
         refine At.eff R (eff_append_row R R R 2 0 R R (ja R) (ja R) sl_89 hq76) ?_
         rintro _ _ ⟨v50, rfl, rfl⟩
         refine At.does R R R R (jd (x := (.eq v50)) (ja R)) ?_
         refine At.done (At.vg ?_)
         refine At.weaken [1, 2, 3] R [(0, (.tv (kSlice kSegment) all1)), (1, (.tv (kSlice (kInt .i64)) list1)), (2, (.eq (.map (some g1)))), (16, (.eq v50)), (17, (.eq v43)), (18, (.tv (kInt .i64) (w64 (low6 + (w64 (Int.tdiv (w64 (high6 - low6)) (2 : Int))))))), (20, (.tv (kInt .i64) (rd (0 : Int) list1 t27))), (109, (.tv (kSlice (kInt .i64)) list1)), (110, (.tv (kInt .i64) (list1.length : Int))), (111, (.tv (kInt .i64) t27))] ⟨R, R, R, R, R, R, R, R, R, R, trivial⟩ (At.reach ⟨(x43 ++ ([(rd (0 : Int) list1 t27)] : List Int)), v50, hF, R, R⟩)
        ·replace hF := W.ite_f hb45 hF
         refine At.skip (At.vg ?_)
         refine At.weaken [0, 1, 2] R [(0, (.tv (kSlice kSegment) all1)), (1, (.tv (kSlice (kInt .i64)) list1)), (2, (.eq (.map (some g1)))), (16, (.eq v42)), (17, (.eq v43)), (18, (.tv (kInt .i64) (w64 (low6 + (w64 (Int.tdiv (w64 (high6 - low6)) (2 : Int))))))), (20, (.tv (kInt .i64) (rd (0 : Int) list1 t27))), (109, (.tv (kSlice (kInt .i64)) list1)), (110, (.tv (kInt .i64) (list1.length : Int))), (111, (.tv (kInt .i64) t27))] ⟨R, R, R, R, R, R, R, R, R, R, trivial⟩ (At.reach ⟨x43, v42, hF, R, R⟩)
       ·rintro _ _ ⟨x45, v46, hF, rfl, rfl⟩
        unfold vn.c5 at hF
        refine At.seq ?_
        refine At.draw mixed [0, 1, 2] R [[], [], []] (fun φ w hgd => ?_)
        obtain ⟨hq73, hF⟩ := hF
        refine AtH.take [0, 1, 2] hgd 0 R R R R (D' := #[Y,N,N,N,N,N,N,N,N,N,N,N,N,N,N]) (by kernel_rfl) (fun _ _ _ _ h => h) R (jb (x := (.tv (kSlice kSegment) all1)) (ja R)) ?_
        refine AtH.take [0, 1, 2] hgd 1 R R R R (D' := #[Y,Y,N,N,N,N,N,N,N,N,N,N,N,N,N]) (by kernel_rfl) (fun _ _ _ _ h => h) R (jb (x := (.tv (kInt .i64) (rd (0 : Int) list1 t27))) (ja R)) ?_
        refine AtH.take [0, 1, 2] hgd 2 R R R R (D' := #[Y,Y,Y,N,N,N,N,N,N,N,N,N,N,N,N]) (by kernel_rfl) (fun _ _ _ _ h => h) R (ve zSegment (ja R) (ja R) Tryz.underlying27 ty_39 hq73) ?_
        refine AtH.take [0, 1, 2] hgd 3 R R R R (D' := #[Y,Y,Y,Y,N,N,N,N,N,N,N,N,N,N,N]) (by kernel_rfl) (fun _ _ _ _ h => h) R (Jc (K := kSegment) (ja R) fa_39_0 vz) ?_
        refine AtH.take [0, 1, 2] hgd 4 R R R R (D' := #[Y,Y,Y,Y,Y,N,N,N,N,N,N,N,N,N,N]) (by kernel_rfl) (fun _ _ _ _ h => h) R (Jc (K := kPoint) (ja R) fa_37_0 sub_Point_0) ?_
        refine AtH.take [0, 1, 2] hgd 5 R R R R (D' := #[Y,Y,Y,Y,Y,Y,N,N,N,N,N,N,N,N,N]) (by kernel_rfl) (fun _ _ _ _ h => h) R (vp (K := (kInt .i64)) (ja R) ty_3) ?_
        refine AtH.take [0, 1, 2] hgd 6 R R R R (D' := #[Y,Y,Y,Y,Y,Y,Y,N,N,N,N,N,N,N,N]) (by kernel_rfl) (fun _ _ _ _ h => h) R (jb (x := (.tv (kSlice kSegment) all1)) (ja R)) ?_
        refine AtH.take [0, 1, 2] hgd 7 R R R R (D' := #[Y,Y,Y,Y,Y,Y,Y,Y,N,N,N,N,N,N,N]) (by kernel_rfl) (fun _ _ _ _ h => h) R (jb (x := (.tv (kInt .i64) (rd (0 : Int) list1 t27))) (ja R)) ?_
        refine AtH.take [0, 1, 2] hgd 8 R R R R (D' := #[Y,Y,Y,Y,Y,Y,Y,Y,Y,N,N,N,N,N,N]) (by kernel_rfl) (fun _ _ _ _ h => h) R (ve zSegment (ja R) (ja R) Tryz.underlying27 ty_39 hq73) ?_
        refine AtH.take [0, 1, 2] hgd 9 R R R R (D' := #[Y,Y,Y,Y,Y,Y,Y,Y,Y,Y,N,N,N,N,N]) (by kernel_rfl) (fun _ _ _ _ h => h) R (Jc (K := kSegment) (ja R) fa_39_1 Ja) ?_
        refine AtH.take [0, 1, 2] hgd 10 R R R R (D' := #[Y,Y,Y,Y,Y,Y,Y,Y,Y,Y,Y,N,N,N,N]) (by kernel_rfl) (fun _ _ _ _ h => h) R (Jc (K := kPoint) (ja R) fa_37_0 sub_Point_0) ?_
        refine AtH.take [0, 1, 2] hgd 11 R R R R (D' := #[Y,Y,Y,Y,Y,Y,Y,Y,Y,Y,Y,Y,N,N,N]) (by kernel_rfl) (fun _ _ _ _ h => h) R (vp (K := (kInt .i64)) (ja R) ty_3) ?_
        refine AtH.take [0, 1, 2] hgd 12 R R R R (D' := #[Y,Y,Y,Y,Y,Y,Y,Y,Y,Y,Y,Y,Y,N,N]) (by kernel_rfl) (fun _ _ _ _ h => h) R (does_max (ja R) (ja R)) ?_
        refine AtH.take [0, 1, 2] hgd 13 R R R R (D' := #[Y,Y,Y,Y,Y,Y,Y,Y,Y,Y,Y,Y,Y,Y,N]) (by kernel_rfl) (fun _ _ _ _ h => h) R (jb (x := (.tv (kInt .i64) (w64 (low6 + (w64 (Int.tdiv (w64 (high6 - low6)) (2 : Int))))))) (ja R)) ?_
        refine AtH.take [0, 1, 2] hgd 14 R R R R (D' := #[Y,Y,Y,Y,Y,Y,Y,Y,Y,Y,Y,Y,Y,Y,Y]) (by kernel_rfl) (fun _ _ _ _ h => h) R (jk (ja R) (ja R) bin_gtr) ?_
        refine AtH.done (by kernel_rfl) ?_
        refine At.vg ?_
        refine At.cond (ja R) (fun hb44 => ?_) (fun hb44 => ?_)
        ·replace hF := W.ite_t hb44 hF
         refine At.region (At.does R R R R (jb (x := (.eq v43)) (ja R)) ?_)
         refine At.does R R R R (jb (x := (.tv (kInt .i64) (rd (0 : Int) list1 t27))) (ja R)) ?_
         refine At.eff R (eff_lit R R R (os := [.tmp 150]) R sl_89 (xs := ([(rd (0 : Int) list1 t27)] : List Int)) (jf (ja R) jg) R R) ?_
         rintro _ _ ⟨v47, rfl, rfl⟩
         obtain ⟨hq74, hF⟩ := hF
         refine At.eff R (eff_append_row R R R 3 0 R R (ja R) (ja R) sl_89 hq74) ?_
         rintro _ _ ⟨v48, rfl, rfl⟩
         refine At.does R R R R (jd (x := (.eq v48)) (ja R)) ?_
         refine At.done ?_
         refine At.block_normal ?_
         refine At.vg (At.region (At.does R R R R (jk (ja R) (ji _ _) jz) ?_))
         refine At.does R R R R (jb (x := (.tv (kInt .i64) (w64 (t27 + (1 : Int))))) (ja R)) ?_
         refine At.done (At.vg ?_)
         refine At.weaken [1, 2, 3] R [(0, (.tv (kSlice kSegment) all1)), (1, (.tv (kSlice (kInt .i64)) list1)), (2, (.eq (.map (some g1)))), (16, (.eq v46)), (17, (.eq v48)), (18, (.tv (kInt .i64) (w64 (low6 + (w64 (Int.tdiv (w64 (high6 - low6)) (2 : Int))))))), (109, (.tv (kSlice (kInt .i64)) list1)), (110, (.tv (kInt .i64) (list1.length : Int))), (111, (.tv (kInt .i64) (w64 (t27 + (1 : Int)))))] ⟨R, R, R, R, R, R, R, R, R, trivial⟩ (At.reach ⟨x45, v46, (x44 ++ ([(rd (0 : Int) list1 t27)] : List Int)), v48, (w64 (t27 + (1 : Int))), hF, R, R⟩)
        ·replace hF := W.ite_f hb44 hF
         refine At.skip ?_
         refine At.block_normal ?_
         refine At.vg (At.region (At.does R R R R (jk (ja R) (ji _ _) jz) ?_))
         refine At.does R R R R (jb (x := (.tv (kInt .i64) (w64 (t27 + (1 : Int))))) (ja R)) ?_
         refine At.done (At.vg ?_)
         refine At.weaken [0, 1, 2] R [(0, (.tv (kSlice kSegment) all1)), (1, (.tv (kSlice (kInt .i64)) list1)), (2, (.eq (.map (some g1)))), (16, (.eq v46)), (17, (.eq v43)), (18, (.tv (kInt .i64) (w64 (low6 + (w64 (Int.tdiv (w64 (high6 - low6)) (2 : Int))))))), (109, (.tv (kSlice (kInt .i64)) list1)), (110, (.tv (kInt .i64) (list1.length : Int))), (111, (.tv (kInt .i64) (w64 (t27 + (1 : Int)))))] ⟨R, R, R, R, R, R, R, R, R, trivial⟩ (At.reach ⟨x45, v46, x44, v43, (w64 (t27 + (1 : Int))), hF, R, R⟩)
      ·replace hF := W.ite_f hb42 hF
       refine At.exit ?_
       refine At.then_exit (At.then_exit ?_)
       refine At.block_here ?_
       refine At.vg ?_
       refine At.weaken [0, 1, 2] R [(0, (.tv (kSlice kSegment) all1)), (1, (.tv (kSlice (kInt .i64)) list1)), (2, (.eq (.map (some g1)))), (16, (.eq v42)), (17, (.eq v43))] ⟨R, R, R, R, R, trivial⟩ (At.reach ⟨x43, v42, x44, v43, hF, R, R⟩)
    ·rintro _ _ ⟨x17, v26, x18, v27, hF, rfl, rfl⟩
     unfold vn.c3 at hF
     refine At.seq (At.seq (At.region (At.does R R R R (jb (x := (.eq v26)) (ja R)) ?_)))
     refine At.does R R R R (does_len_row (ja R) 1 R Tryz.underlying89) ?_
     refine At.does R R R R (jb (x := (.tv (kSlice (kInt .i64)) list1)) (ja R)) ?_
     refine At.does R R R R (js (ja R) Tryz.underlying89) ?_
     refine At.does R R R R (jk (ja R) (ja R) vc) ?_
     refine At.does R R R R (jb (x := (.tv kBool (decide ((x17.length : Int) < (list1.length : Int))))) (ja R)) ?_
     refine At.vi R R R R (ju R) R (fun hg1 => (jb (x := (.eq v27)) (ja R))) ?_
     refine At.vi R R R R (ju R) R (fun hg2 => (does_len_row (jh R hg2) 2 R Tryz.underlying89)) ?_
     refine At.vi R R R R (ju R) R (fun hg3 => (jb (x := (.tv (kSlice (kInt .i64)) list1)) (ja R))) ?_
     refine At.vi R R R R (ju R) R (fun hg4 => (js (jh R hg4) Tryz.underlying89)) ?_
     refine At.vi R R R R (ju R) R (fun hg5 => (jk (jh R hg5) (jh R hg5) vc)) ?_
     refine At.does R R R R (jm (ja R) (ja R) (jl _) vd) ?_
     refine At.done (At.vg ?_)
     refine At.cond (ja R) (fun hb14 => ?_) (fun hb14 => ?_)
     ·replace hF := W.ite_t hb14 hF
      refine At.seq (At.region (At.does R R R R (jb (x := (.tv (kSlice kSegment) all1)) (ja R)) ?_))
      refine At.does R R R R (jb (x := (.eq v26)) (ja R)) ?_
      refine At.does R R R R (jb (x := (.eq (.map (some g1)))) (ja R)) ?_
      refine At.freezes 1 [16, 154, 167] R ⟨R, R, R, trivial⟩ ?_
      replace hF := W.vl hF
      refine At.eff R (jo R R (jq R en_37 (jf (ja R) (jf (ja R) (jf (ja R) jg)))) [0] R (ih hF)) ?_
      rintro _ _ ⟨_, _, ⟨r2, hF, rfl, rfl⟩, rfl, rfl⟩
      refine At.done (At.vg (At.seq (At.region (At.does R R R R (jb (x := (.tv (kSlice kSegment) all1)) (ja R)) ?_))))
      refine At.does R R R R (jb (x := (.eq v27)) (ja R)) ?_
      refine At.does R R R R (jb (x := (.eq (.map (some g1)))) (ja R)) ?_
      refine At.freeze2 3 17 171 R R R ?_
      replace hF := W.vl hF
      refine At.eff R (jo R R (jq R en_37 (jf (ja R) (jf (ja R) (jf (ja R) jg)))) [0] R (ih hF)) ?_
      rintro _ _ ⟨_, _, ⟨r3, hF, rfl, rfl⟩, rfl, rfl⟩
      refine At.done (At.vg (At.ret (At.vh ?_)))
      exact At.ret_0 rfl  [0] rfl ⟨r3, hF, rfl, rfl⟩
     ·replace hF := W.ite_f hb14 hF
      refine At.skip (At.vg (At.seq (At.region (At.does R R R R (jb (x := (.tv (kSlice (kInt .i64)) list1)) (ja R)) ?_))))
      refine At.does R R R R (js (ja R) Tryz.underlying89) ?_
      refine At.does R R R R (jb (x := (.tv (kInt .i64) (0 : Int))) (ji _ _)) ?_
      refine At.done (At.vg (At.block ?_))
      obtain ⟨n2, hF⟩ := hF
      refine At.weaken [0] R [(0, (.tv (kSlice kSegment) all1)), (1, (.tv (kSlice (kInt .i64)) list1)), (2, (.eq (.map (some g1)))), (174, (.tv (kSlice (kInt .i64)) list1)), (175, (.tv (kInt .i64) (list1.length : Int))), (176, (.tv (kInt .i64) (0 : Int)))] ⟨R, R, R, R, R, R, trivial⟩ ?_
      refine At.loop (fun m rs L => ∃ (x29 : (List ((Int × Int) × Int))) (t18 : Int), W.iter2 (vn.l1 all1 list1) m x29 t18 Q ∧ rs = [.map g1 (kPair (kInt .i64) (kInt .i64)) (kInt .i64) x29] ∧ L = mkL [(0, (.tv (kSlice kSegment) all1)), (1, (.tv (kSlice (kInt .i64)) list1)), (2, (.eq (.map (some g1)))), (174, (.tv (kSlice (kInt .i64)) list1)), (175, (.tv (kInt .i64) (list1.length : Int))), (176, (.tv (kInt .i64) t18))]) ?_ ?_ (m := n2) ⟨found1, (0 : Int), hF, R, R⟩
      ·rintro rs L ⟨_, _, hF, _, _⟩; exact hF
      ·rintro m1 _ _ ⟨x29, t18, hF, rfl, rfl⟩
       replace hF := W.iter2_s hF
       unfold vn.l1 at hF
       refine At.seq (At.region (At.does R R R R (jk (ja R) (ja R) vc) ?_))
       refine At.done (At.vg (At.seq ?_))
       refine At.cond (ja R) (fun hb25 => ?_) (fun hb25 => ?_)
       ·replace hF := W.ite_t hb25 hF
        refine At.skip (At.vg ?_)
        refine At.cut (fun rs L => ∃ (x33 : (List ((Int × Int) × Int))), vn.c4 t18 (W.iter2 (vn.l1 all1 list1) m1) x33 Q ∧ rs = [.map g1 (kPair (kInt .i64) (kInt .i64)) (kInt .i64) x33] ∧ L = mkL [(0, (.tv (kSlice kSegment) all1)), (1, (.tv (kSlice (kInt .i64)) list1)), (2, (.eq (.map (some g1)))), (174, (.tv (kSlice (kInt .i64)) list1)), (175, (.tv (kInt .i64) (list1.length : Int))), (176, (.tv (kInt .i64) t18))]) ?_ ?_
        ·refine At.block (At.seq (At.region (At.does R R R R (jb (x := (.tv (kInt .i64) t18)) (ja R)) ?_)))
         obtain ⟨hq49, hF⟩ := hF
         refine At.does R R R R (ve (0 : Int) (ja R) (ja R) Tryz.underlying89 ty_3 hq49) ?_
         refine At.does R R R R (vp (K := (kInt .i64)) (ja R) ty_3) ?_
         refine At.does R R R R (jd (x := (.tv (kInt .i64) t18)) (ja R)) ?_
         refine At.does R R R R (jd (x := (.tv (kInt .i64) (rd (0 : Int) list1 t18))) (ja R)) ?_
         refine At.done (At.vg (At.seq (At.region (At.does R R R R (jb (x := (.tv (kSlice (kInt .i64)) list1)) (ja R)) ?_))))
         refine At.does R R R R (jb (x := (.tv (kInt .i64) t18)) (ja R)) ?_
         refine At.does R R R R (jk (ja R) (ji _ _) jz) ?_
         obtain ⟨hq50, hF⟩ := hF
         refine At.does R R R R (does_cut_l (ja R) (ja R) Tryz.underlying89 ty_3 hq50) ?_
         refine At.does R R R R (js (ja R) Tryz.underlying89) ?_
         refine At.does R R R R (jb (x := (.tv (kInt .i64) (0 : Int))) (ji _ _)) ?_
         refine At.done (At.vg (At.block ?_))
         obtain ⟨n1, hF⟩ := hF
         refine At.weaken [0] R [(0, (.tv (kSlice kSegment) all1)), (1, (.tv (kSlice (kInt .i64)) list1)), (2, (.eq (.map (some g1)))), (22, (.tv (kInt .i64) (rd (0 : Int) list1 t18))), (174, (.tv (kSlice (kInt .i64)) list1)), (175, (.tv (kInt .i64) (list1.length : Int))), (176, (.tv (kInt .i64) t18)), (184, (.tv (kSlice (kInt .i64)) (cut_l list1 (w64 (t18 + (1 : Int)))))), (185, (.tv (kInt .i64) ((cut_l list1 (w64 (t18 + (1 : Int)))).length : Int))), (186, (.tv (kInt .i64) (0 : Int)))] ⟨R, R, R, R, R, R, R, R, R, R, trivial⟩ ?_
         refine At.loop (fun m rs L => ∃ (x36 : (List ((Int × Int) × Int))) (t24 : Int), W.iter2 (vn.l2 all1 list1 t18 (vn.c4 t18 (W.iter2 (vn.l1 all1 list1) m1))) m x36 t24 Q ∧ rs = [.map g1 (kPair (kInt .i64) (kInt .i64)) (kInt .i64) x36] ∧ L = mkL [(0, (.tv (kSlice kSegment) all1)), (1, (.tv (kSlice (kInt .i64)) list1)), (2, (.eq (.map (some g1)))), (22, (.tv (kInt .i64) (rd (0 : Int) list1 t18))), (174, (.tv (kSlice (kInt .i64)) list1)), (175, (.tv (kInt .i64) (list1.length : Int))), (176, (.tv (kInt .i64) t18)), (184, (.tv (kSlice (kInt .i64)) (cut_l list1 (w64 (t18 + (1 : Int)))))), (185, (.tv (kInt .i64) ((cut_l list1 (w64 (t18 + (1 : Int)))).length : Int))), (186, (.tv (kInt .i64) t24))]) ?_ ?_ (m := n1) ⟨x29, (0 : Int), hF, R, R⟩
         ·rintro rs L ⟨_, _, hF, _, _⟩; exact hF
         ·rintro m2 _ _ ⟨x36, t24, hF, rfl, rfl⟩
          replace hF := W.iter2_s hF
          unfold vn.l2 at hF
          refine At.seq (At.region (At.does R R R R (jk (ja R) (ja R) vc) ?_))
          refine At.done (At.vg (At.seq ?_))
          refine At.cond (ja R) (fun hb34 => ?_) (fun hb34 => ?_)
          ·replace hF := W.ite_t hb34 hF
           refine At.skip (At.vg (At.seq (At.block (At.seq (At.region ?_)))))
           obtain ⟨hq57, hF⟩ := hF
           refine At.does R R R R (ve (0 : Int) (ja R) (ja R) Tryz.underlying89 ty_3 hq57) ?_
           refine At.does R R R R (vp (K := (kInt .i64)) (ja R) ty_3) ?_
           refine At.does R R R R (jd (x := (.tv (kInt .i64) (rd (0 : Int) (cut_l list1 (w64 (t18 + (1 : Int)))) t24))) (ja R)) ?_
           refine At.done (At.vg (At.seq ?_))
           refine At.draw mixed [0] R [[]] (fun φ w hgd => ?_)
           obtain ⟨hq58, hF⟩ := hF
           obtain ⟨hq59, hF⟩ := hF
           replace hF := W.vl hF
           refine AtH.take [0] hgd 0 R R R R (D' := #[Y,N,N,N,N,N,N,N,N,N]) (by kernel_rfl) (fun _ _ _ _ h => h) R (jb (x := (.tv (kSlice kSegment) all1)) (ja R)) ?_
           refine AtH.take [0] hgd 1 R R R R (D' := #[Y,Y,N,N,N,N,N,N,N,N]) (by kernel_rfl) (fun _ _ _ _ h => h) R (jb (x := (.tv (kInt .i64) (rd (0 : Int) list1 t18))) (ja R)) ?_
           refine AtH.take [0] hgd 2 R R R R (D' := #[Y,Y,Y,N,N,N,N,N,N,N]) (by kernel_rfl) (fun _ _ _ _ h => h) R (ve zSegment (ja R) (ja R) Tryz.underlying27 ty_39 hq58) ?_
           refine AtH.take [0] hgd 3 R R R R (D' := #[Y,Y,Y,Y,N,N,N,N,N,N]) (by kernel_rfl) (fun _ _ _ _ h => h) R (vp (K := kSegment) (ja R) ty_39) ?_
           refine AtH.take [0] hgd 4 R R R R (D' := #[Y,Y,Y,Y,Y,N,N,N,N,N]) (by kernel_rfl) (fun _ _ _ _ h => h) R (jb (x := (.tv (kSlice kSegment) all1)) (ja R)) ?_
           refine AtH.take [0] hgd 5 R R R R (D' := #[Y,Y,Y,Y,Y,Y,N,N,N,N]) (by kernel_rfl) (fun _ _ _ _ h => h) R (jb (x := (.tv (kInt .i64) (rd (0 : Int) (cut_l list1 (w64 (t18 + (1 : Int)))) t24))) (ja R)) ?_
           refine AtH.take [0] hgd 6 R R R R (D' := #[Y,Y,Y,Y,Y,Y,Y,N,N,N]) (by kernel_rfl) (fun _ _ _ _ h => h) R (ve zSegment (ja R) (ja R) Tryz.underlying27 ty_39 hq59) ?_
           refine AtH.take [0] hgd 7 R R R R (D' := #[Y,Y,Y,Y,Y,Y,Y,Y,N,N]) (by kernel_rfl) (fun _ _ _ _ h => h) R (vp (K := kSegment) (ja R) ty_39) ?_
           refine AtH.all1 8 (by kernel_rfl) ?_
           refine AtH.eff [(0, 0)] R R R R R R (jn R R jp (jq R en_23 (jf (ja R) (jf (ja R) jg))) (geom_Meets.ok hF) (by rintro _ _ ⟨r, _, rfl, _⟩; exact flat_int)) (D' := #[Y,Y,Y,Y,Y,Y,Y,Y,Y,N]) (by kernel_rfl) (by kernel_rfl) ?_
           rintro _ _ ⟨_, _, ⟨r12, hF, rfl, rfl⟩, rfl, rfl⟩
           refine ⟨_, .inr ⟨R, flat_int⟩, ?_⟩
           refine AtH.take [0] hgd 9 R R R R (D' := #[Y,Y,Y,Y,Y,Y,Y,Y,Y,Y]) (by kernel_rfl) (fun _ _ _ _ h => h) R (jd (x := (.tv (kInt .i64) r12)) (ja R)) ?_
           refine AtH.done (by kernel_rfl) ?_
           refine At.vg (At.seq (At.region (At.does R R R R (jb (x := (.tv (kInt .i64) r12)) (ja R)) ?_)))
           refine At.does R R R R (jk (ja R) (ji _ _) bin_neq) ?_
           refine At.done (At.vg ?_)
           refine At.cond (ja R) (fun hb35 => ?_) (fun hb35 => ?_)
           ·replace hF := W.ite_t hb35 hF
            refine At.region (At.does R R R R (jb (x := (.eq (.map (some g1)))) (ja R)) ?_)
            refine At.does R R R R (jb (x := (.tv (kInt .i64) (rd (0 : Int) list1 t18))) (ja R)) ?_
            refine At.does R R R R (jb (x := (.tv (kInt .i64) (rd (0 : Int) (cut_l list1 (w64 (t18 + (1 : Int)))) t24))) (ja R)) ?_
            refine At.does R R R R (jy (jr (ja R) (jr (ja R) parts_nil)) zr_92 bd_92 R (fills_cons R sub_a92_0 (fills_cons R sub_a92_1 fills_nil))) ?_
            refine At.does R R R R (jb (x := (.tv (kInt .i64) r12)) (ja R)) ?_
            refine At.eff R (eff_mapUpdate R R (ja R) 0 R mt_90 (ja R) (ja R)) ?_
            rintro _ _ ⟨rfl, rfl⟩
            refine At.done ?_
            refine At.block_normal ?_
            refine At.vg (At.region (At.does R R R R (jk (ja R) (ji _ _) jz) ?_))
            refine At.does R R R R (jb (x := (.tv (kInt .i64) (w64 (t24 + (1 : Int))))) (ja R)) ?_
            refine At.done (At.vg ?_)
            refine At.weaken [0] R [(0, (.tv (kSlice kSegment) all1)), (1, (.tv (kSlice (kInt .i64)) list1)), (2, (.eq (.map (some g1)))), (22, (.tv (kInt .i64) (rd (0 : Int) list1 t18))), (174, (.tv (kSlice (kInt .i64)) list1)), (175, (.tv (kInt .i64) (list1.length : Int))), (176, (.tv (kInt .i64) t18)), (184, (.tv (kSlice (kInt .i64)) (cut_l list1 (w64 (t18 + (1 : Int)))))), (185, (.tv (kInt .i64) ((cut_l list1 (w64 (t18 + (1 : Int)))).length : Int))), (186, (.tv (kInt .i64) (w64 (t24 + (1 : Int)))))] ⟨R, R, R, R, R, R, R, R, R, R, trivial⟩ (At.reach ⟨(mset ((rd (0 : Int) list1 t18), (rd (0 : Int) (cut_l list1 (w64 (t18 + (1 : Int)))) t24)) r12 x36), (w64 (t24 + (1 : Int))), hF, R, R⟩)
           ·replace hF := W.ite_f hb35 hF
            refine At.skip ?_
            refine At.block_normal ?_
            refine At.vg (At.region (At.does R R R R (jk (ja R) (ji _ _) jz) ?_))
            refine At.does R R R R (jb (x := (.tv (kInt .i64) (w64 (t24 + (1 : Int))))) (ja R)) ?_
            refine At.done (At.vg ?_)
            refine At.weaken [0] R [(0, (.tv (kSlice kSegment) all1)), (1, (.tv (kSlice (kInt .i64)) list1)), (2, (.eq (.map (some g1)))), (22, (.tv (kInt .i64) (rd (0 : Int) list1 t18))), (174, (.tv (kSlice (kInt .i64)) list1)), (175, (.tv (kInt .i64) (list1.length : Int))), (176, (.tv (kInt .i64) t18)), (184, (.tv (kSlice (kInt .i64)) (cut_l list1 (w64 (t18 + (1 : Int)))))), (185, (.tv (kInt .i64) ((cut_l list1 (w64 (t18 + (1 : Int)))).length : Int))), (186, (.tv (kInt .i64) (w64 (t24 + (1 : Int)))))] ⟨R, R, R, R, R, R, R, R, R, R, trivial⟩ (At.reach ⟨x36, (w64 (t24 + (1 : Int))), hF, R, R⟩)
          ·replace hF := W.ite_f hb34 hF
           refine At.exit ?_
           refine At.then_exit (At.then_exit ?_)
           refine At.block_here ?_
           refine At.block_normal ?_
           refine At.vg ?_
           refine At.weaken [0] R [(0, (.tv (kSlice kSegment) all1)), (1, (.tv (kSlice (kInt .i64)) list1)), (2, (.eq (.map (some g1)))), (174, (.tv (kSlice (kInt .i64)) list1)), (175, (.tv (kInt .i64) (list1.length : Int))), (176, (.tv (kInt .i64) t18))] ⟨R, R, R, R, R, R, trivial⟩ (At.reach ⟨x36, hF, R, R⟩)
        ·rintro _ _ ⟨x33, hF, rfl, rfl⟩
         unfold vn.c4 at hF
         refine At.region (At.does R R R R (jk (ja R) (ji _ _) jz) ?_)
         refine At.does R R R R (jb (x := (.tv (kInt .i64) (w64 (t18 + (1 : Int))))) (ja R)) ?_
         refine At.done (At.vg ?_)
         refine At.weaken [0] R [(0, (.tv (kSlice kSegment) all1)), (1, (.tv (kSlice (kInt .i64)) list1)), (2, (.eq (.map (some g1)))), (174, (.tv (kSlice (kInt .i64)) list1)), (175, (.tv (kInt .i64) (list1.length : Int))), (176, (.tv (kInt .i64) (w64 (t18 + (1 : Int)))))] ⟨R, R, R, R, R, R, trivial⟩ (At.reach ⟨x33, (w64 (t18 + (1 : Int))), hF, R, R⟩)
       ·replace hF := W.ite_f hb25 hF
        refine At.exit ?_
        refine At.then_exit (At.then_exit ?_)
        refine At.block_here ?_
        refine At.norm ?_
        exact At.ret_0 rfl  [0] rfl ⟨x29, hF, rfl, rfl⟩
theorem vn.ok {all1 : (List Segment)} {list1 : (List Int)} {found1 : (List ((Int × Int) × Int))} {g1 : Nat} {Q : (List ((Int × Int) × Int)) → Prop} (hF : vn.F all1 list1 found1 Q) : Con Tryz.prog 37 [.tv (kSlice kSegment) all1, .tv (kSlice (kInt .i64)) list1, .eq (.map (some g1))] [.map g1 (kPair (kInt .i64) (kInt .i64)) (kInt .i64) found1] (fun ta rs' => ∃ (r : (List ((Int × Int) × Int))), Q r ∧ ta = .eq (.tuple #[]) ∧ rs' = [.map g1 (kPair (kInt .i64) (kInt .i64)) (kInt .i64) r]) := by
 obtain ⟨n, hF⟩ := hF
 exact vn.okn n hF
def vm.c1 (s1 : (List ByteArray)) : W (List ByteArray) := W.ret s1
def vm.c2 (k34 : Int) (A1 : Int → W (List ByteArray)) : W (List ByteArray) := A1 (w64 (k34 + (1 : Int)))
def vm.c3 (x24 : (List ByteArray)) (k48 : Int) : W (List ByteArray) := W.req (0 ≤ k48 ∧ k48 ≤ (x24.length : Int)) (W.req (x24.length ≤ x24.length) (W.req (0 ≤ k48 ∧ k48 ≤ ((x24.take k48.toNat ++ (List.replicate (x24.length - k48.toNat) (⟨#[]⟩ : ByteArray) ++ x24.drop x24.length)).length : Int)) (W.req (k48.toNat ≤ (x24.take k48.toNat ++ (List.replicate (x24.length - k48.toNat) (⟨#[]⟩ : ByteArray) ++ x24.drop x24.length)).length) (W.ret ((x24.take k48.toNat ++ (List.replicate (x24.length - k48.toNat) (⟨#[]⟩ : ByteArray) ++ x24.drop x24.length)).take k48.toNat)))))
def vm.l2 (s1 : (List ByteArray)) (k34 : Int) (K3 : (List ByteArray) → Int → W (List ByteArray)) (A2 : (List ByteArray) → Int → Int → W (List ByteArray)) (x27 : (List ByteArray)) (k53 : Int) (k54 : Int) : W (List ByteArray) := W.ite (decide (k54 < ((s1.length - k34.toNat : Nat) : Int))) (W.req (0 ≤ k54 ∧ k54 < ((s1.length - k34.toNat : Nat) : Int)) (W.req (0 ≤ (((k34.toNat : Nat) : Int) + k54) ∧ (((k34.toNat : Nat) : Int) + k54) < (x27.length : Int)) (W.req (0 ≤ (w64 (k54 - (1 : Int))) ∧ (w64 (k54 - (1 : Int))) < ((s1.length - k34.toNat : Nat) : Int)) (W.req (0 ≤ (((k34.toNat : Nat) : Int) + (w64 (k54 - (1 : Int)))) ∧ (((k34.toNat : Nat) : Int) + (w64 (k54 - (1 : Int)))) < (x27.length : Int)) (W.ite (!(sEq (rd (⟨#[]⟩ : ByteArray) x27 (((k34.toNat : Nat) : Int) + k54)) (rd (⟨#[]⟩ : ByteArray) x27 (((k34.toNat : Nat) : Int) + (w64 (k54 - (1 : Int))))))) (W.req (0 ≤ k54 ∧ k54 < ((s1.length - k34.toNat : Nat) : Int)) (W.req (0 ≤ (((k34.toNat : Nat) : Int) + k54) ∧ (((k34.toNat : Nat) : Int) + k54) < (x27.length : Int)) (W.req (0 ≤ k53 ∧ k53 < (x27.length : Int)) (W.req (0 ≤ k53 ∧ k53 < (x27.length : Int)) (A2 (x27.set k53.toNat (rd (⟨#[]⟩ : ByteArray) x27 (((k34.toNat : Nat) : Int) + k54))) (w64 (k53 + (1 : Int))) (w64 (k54 + (1 : Int)))))))) (A2 x27 k53 (w64 (k54 + (1 : Int))))))))) (K3 x27 k53)
def vm.l1 (s1 : (List ByteArray)) (K1 : W (List ByteArray)) (A1 : Int → W (List ByteArray)) (k34 : Int) : W (List ByteArray) := W.ite (decide (k34 < (s1.length : Int))) (W.req (0 ≤ k34 ∧ k34 < (s1.length : Int)) (W.req (0 ≤ (w64 (k34 - (1 : Int))) ∧ (w64 (k34 - (1 : Int))) < (s1.length : Int)) (W.ite (sEq (rd (⟨#[]⟩ : ByteArray) s1 k34) (rd (⟨#[]⟩ : ByteArray) s1 (w64 (k34 - (1 : Int))))) (W.req (0 ≤ k34 ∧ k34 ≤ (s1.length : Int)) (W.ex fun n => W.iter3 (vm.l2 s1 k34 (vm.c3)) n s1 k34 (1 : Int))) ((vm.c2 k34 A1))))) (K1)
def vm.F (s1 : (List ByteArray)) : W (List ByteArray) := W.ite (decide ((s1.length : Int) < (2 : Int))) (W.ret s1) (W.ex fun n => W.iter1 (vm.l1 s1 (vm.c1 s1)) n (1 : Int))
theorem vm.ok {s1 : (List ByteArray)} {v1 : Value} {Q : (List ByteArray) → Prop} (hF : vm.F s1 Q) : Con Tryz.prog 38 [.eq v1] [.row v1 50 kStr s1] (fun ta rs' => ∃ (r : (List ByteArray)) (u0 : Value), Q r ∧ ta = .eq u0 ∧ rs' = [.row u0 50 kStr r]) := by
 refine Con.intro' Tryz.func38 Tryz.ntmps38 R R (fun C => ?_)
 unfold vm.F at hF
 refine At.seq (At.region (At.does R R R R (jd (x := (.eq (.slice none 0 0))) (opd_eq _)) ?_))
 refine At.done (At.vg (At.seq (At.seq (At.region (At.does R R R R (jb (x := (.eq v1)) (ja R)) ?_)))))
 refine At.does R R R R (does_len_row (ja R) 0 R Tryz.underlying41) ?_
 refine At.does R R R R (jk (ja R) (ji _ _) vc) ?_
 refine At.done (At.vg ?_)
 refine At.cond (ja R) (fun hb1 => ?_) (fun hb1 => ?_)
 ·replace hF := W.ite_t hb1 hF
  refine At.seq (At.region (At.does R R R R (jb (x := (.eq v1)) (ja R)) ?_))
  refine At.does R R R R (jd (x := (.eq v1)) (ja R)) ?_
  refine At.done (At.vg (At.ret (At.vh ?_)))
  exact At.ret_1 rfl (rv_tmp rfl) [0] rfl ⟨s1, _, hF, rfl, rfl⟩
 ·replace hF := W.ite_f hb1 hF
  refine At.skip (At.vg ?_)
  refine At.cut (fun rs L => ∃ _ : Unit, vm.c1 s1 Q ∧ rs = [.row v1 50 kStr s1] ∧ L = mkL [(0, (.eq v1))]) ?_ ?_
  ·refine At.seq (At.region (At.does R R R R (jd (x := (.tv (kInt .i64) (1 : Int))) (ji _ _)) ?_))
   refine At.done (At.vg (At.block ?_))
   obtain ⟨n2, hF⟩ := hF
   refine At.weaken [0] R [(0, (.eq v1)), (3, (.tv (kInt .i64) (1 : Int)))] ⟨R, R, trivial⟩ ?_
   refine At.loop (fun m rs L => ∃ (k34 : Int), W.iter1 (vm.l1 s1 (vm.c1 s1)) m k34 Q ∧ rs = [.row v1 50 kStr s1] ∧ L = mkL [(0, (.eq v1)), (3, (.tv (kInt .i64) k34))]) ?_ ?_ (m := n2) ⟨(1 : Int), hF, R, R⟩
   ·rintro rs L ⟨_, hF, _, _⟩; exact hF
   ·rintro m1 _ _ ⟨k34, hF, rfl, rfl⟩
    replace hF := W.iter1_s hF
    unfold vm.l1 at hF
    refine At.seq (At.seq (At.region (At.does R R R R (jb (x := (.tv (kInt .i64) k34)) (ja R)) ?_)))
    refine At.does R R R R (jb (x := (.eq v1)) (ja R)) ?_
    refine At.does R R R R (does_len_row (ja R) 0 R Tryz.underlying41) ?_
    refine At.does R R R R (jk (ja R) (ja R) vc) ?_
    refine At.done (At.vg ?_)
    refine At.cond (ja R) (fun hb26 => ?_) (fun hb26 => ?_)
    ·replace hF := W.ite_t hb26 hF
     refine At.skip (At.vg ?_)
     refine At.cut (fun rs L => ∃ _ : Unit, vm.c2 k34 (W.iter1 (vm.l1 s1 (vm.c1 s1)) m1) Q ∧ rs = [.row v1 50 kStr s1] ∧ L = mkL [(0, (.eq v1)), (3, (.tv (kInt .i64) k34))]) ?_ ?_
     ·refine At.block (At.seq ?_)
      refine At.draw mixed [0] R [[]] (fun φ w hgd => ?_)
      obtain ⟨hq111, hF⟩ := hF
      obtain ⟨hq112, hF⟩ := hF
      refine AtH.take [0] hgd 0 R R R R (D' := #[Y,N,N,N,N,N,N,N,N,N]) (by kernel_rfl) (fun _ _ _ _ h => h) R (jb (x := (.eq v1)) (ja R)) ?_
      refine AtH.take [0] hgd 1 R R R R (D' := #[Y,Y,N,N,N,N,N,N,N,N]) (by kernel_rfl) (fun _ _ _ _ h => h) R (jb (x := (.tv (kInt .i64) k34)) (ja R)) ?_
      refine AtH.take [0] hgd 2 R R R R (D' := #[Y,Y,Y,N,N,N,N,N,N,N]) (by kernel_rfl) (fun _ _ _ _ h => h) R (does_idx_row (ja R) 0 R (ja R) Tryz.underlying41 ty_9 hq111) ?_
      refine AtH.take [0] hgd 3 R R R R (D' := #[Y,Y,Y,Y,N,N,N,N,N,N]) (by kernel_rfl) (fun _ _ _ _ h => h) R (Jb (ja R) 0 R k34 0 R (⟨#[]⟩ : ByteArray) hq111 (Sub.self kStr) ty_9) ?_
      refine AtH.take [0] hgd 4 R R R R (D' := #[Y,Y,Y,Y,Y,N,N,N,N,N]) (by kernel_rfl) (fun _ _ _ _ h => h) R (jb (x := (.eq v1)) (ja R)) ?_
      refine AtH.take [0] hgd 5 R R R R (D' := #[Y,Y,Y,Y,Y,Y,N,N,N,N]) (by kernel_rfl) (fun _ _ _ _ h => h) R (jb (x := (.tv (kInt .i64) k34)) (ja R)) ?_
      refine AtH.take [0] hgd 6 R R R R (D' := #[Y,Y,Y,Y,Y,Y,Y,N,N,N]) (by kernel_rfl) (fun _ _ _ _ h => h) R (jk (ja R) (ji _ _) bin_sub) ?_
      refine AtH.take [0] hgd 7 R R R R (D' := #[Y,Y,Y,Y,Y,Y,Y,Y,N,N]) (by kernel_rfl) (fun _ _ _ _ h => h) R (does_idx_row (ja R) 0 R (ja R) Tryz.underlying41 ty_9 hq112) ?_
      refine AtH.take [0] hgd 8 R R R R (D' := #[Y,Y,Y,Y,Y,Y,Y,Y,Y,N]) (by kernel_rfl) (fun _ _ _ _ h => h) R (Jb (ja R) 0 R (w64 (k34 - (1 : Int))) 0 R (⟨#[]⟩ : ByteArray) hq112 (Sub.self kStr) ty_9) ?_
      refine AtH.take [0] hgd 9 R R R R (D' := #[Y,Y,Y,Y,Y,Y,Y,Y,Y,Y]) (by kernel_rfl) (fun _ _ _ _ h => h) R (jk (ja R) (ja R) bin_seql) ?_
      refine AtH.done (by kernel_rfl) ?_
      refine At.vg ?_
      refine At.cond (ja R) (fun hb32 => ?_) (fun hb32 => ?_)
      ·replace hF := W.ite_t hb32 hF
       refine At.seq (At.region (At.does R R R R (jb (x := (.eq v1)) (ja R)) ?_))
       refine At.does R R R R (jb (x := (.tv (kInt .i64) k34)) (ja R)) ?_
       obtain ⟨hq113, hF⟩ := hF
       refine At.does R R R R (does_cutrow_l (ja R) 0 R (ja R) Tryz.underlying41 ty_9 hq113) ?_
       refine At.does R R R R (jd (x := (cutv k34.toNat s1.length kStr.sz v1)) (ja R)) ?_
       refine At.done (At.vg ?_)
       refine At.cut (fun rs L => ∃ (x24 : (List ByteArray)) (k48 : Int), vm.c3 x24 k48 Q ∧ rs = [.row v1 50 kStr x24] ∧ L = mkL [(0, (.eq v1)), (3, (.tv (kInt .i64) k48))]) ?_ ?_
       ·refine At.seq (At.region (At.does R R R R (jd (x := (.tv (kInt .i64) (1 : Int))) (ji _ _)) ?_))
        refine At.done (At.vg (At.block ?_))
        obtain ⟨n1, hF⟩ := hF
        refine At.weaken [0] R [(0, (.eq v1)), (3, (.tv (kInt .i64) k34)), (4, (cutv k34.toNat s1.length kStr.sz v1)), (5, (.tv (kInt .i64) (1 : Int)))] ⟨R, R, R, R, trivial⟩ ?_
        refine At.loop (fun m rs L => ∃ (x27 : (List ByteArray)) (k53 : Int) (k54 : Int), W.iter3 (vm.l2 s1 k34 (vm.c3)) m x27 k53 k54 Q ∧ rs = [.row v1 50 kStr x27] ∧ L = mkL [(0, (.eq v1)), (3, (.tv (kInt .i64) k53)), (4, (cutv k34.toNat s1.length kStr.sz v1)), (5, (.tv (kInt .i64) k54))]) ?_ ?_ (m := n1) ⟨s1, k34, (1 : Int), hF, R, R⟩
        ·rintro rs L ⟨_, _, _, hF, _, _⟩; exact hF
        ·rintro m2 _ _ ⟨x27, k53, k54, hF, rfl, rfl⟩
         replace hF := W.iter3_s hF
         unfold vm.l2 at hF
         refine At.seq (At.seq (At.region (At.does R R R R (jb (x := (.tv (kInt .i64) k54)) (ja R)) ?_)))
         refine At.does R R R R (jb (x := (cutv k34.toNat s1.length kStr.sz v1)) (ja R)) ?_
         refine At.does R R R R (does_len_cut (ja R) Tryz.underlying41) ?_
         refine At.does R R R R (jk (ja R) (ja R) vc) ?_
         refine At.done (At.vg ?_)
         refine At.cond (ja R) (fun hb41 => ?_) (fun hb41 => ?_)
         ·replace hF := W.ite_t hb41 hF
          refine At.skip (At.vg (At.seq (At.block (At.seq ?_))))
          refine At.draw mixed [0] R [[]] (fun φ w hgd => ?_)
          obtain ⟨hq150, hF⟩ := hF
          obtain ⟨hq151, hF⟩ := hF
          obtain ⟨hq152, hF⟩ := hF
          obtain ⟨hq153, hF⟩ := hF
          refine AtH.take [0] hgd 0 R R R R (D' := #[Y,N,N,N,N,N,N,N,N,N]) (by kernel_rfl) (fun _ _ _ _ h => h) R (jb (x := (cutv k34.toNat s1.length kStr.sz v1)) (ja R)) ?_
          refine AtH.take [0] hgd 1 R R R R (D' := #[Y,Y,N,N,N,N,N,N,N,N]) (by kernel_rfl) (fun _ _ _ _ h => h) R (jb (x := (.tv (kInt .i64) k54)) (ja R)) ?_
          refine AtH.take [0] hgd 2 R R R R (D' := #[Y,Y,Y,N,N,N,N,N,N,N]) (by kernel_rfl) (fun _ _ _ _ h => h) R (does_idx_cut (ja R) 0 R (ja R) Tryz.underlying41 ty_9 hq150) ?_
          refine AtH.take [0] hgd 3 R R R R (D' := #[Y,Y,Y,Y,N,N,N,N,N,N]) (by kernel_rfl) (fun _ _ _ _ h => h) R (Jb (ja R) 0 R (((k34.toNat : Nat) : Int) + k54) 0 R (⟨#[]⟩ : ByteArray) hq151 (Sub.self kStr) ty_9) ?_
          refine AtH.take [0] hgd 4 R R R R (D' := #[Y,Y,Y,Y,Y,N,N,N,N,N]) (by kernel_rfl) (fun _ _ _ _ h => h) R (jb (x := (cutv k34.toNat s1.length kStr.sz v1)) (ja R)) ?_
          refine AtH.take [0] hgd 5 R R R R (D' := #[Y,Y,Y,Y,Y,Y,N,N,N,N]) (by kernel_rfl) (fun _ _ _ _ h => h) R (jb (x := (.tv (kInt .i64) k54)) (ja R)) ?_
          refine AtH.take [0] hgd 6 R R R R (D' := #[Y,Y,Y,Y,Y,Y,Y,N,N,N]) (by kernel_rfl) (fun _ _ _ _ h => h) R (jk (ja R) (ji _ _) bin_sub) ?_
          refine AtH.take [0] hgd 7 R R R R (D' := #[Y,Y,Y,Y,Y,Y,Y,Y,N,N]) (by kernel_rfl) (fun _ _ _ _ h => h) R (does_idx_cut (ja R) 0 R (ja R) Tryz.underlying41 ty_9 hq152) ?_
          refine AtH.take [0] hgd 8 R R R R (D' := #[Y,Y,Y,Y,Y,Y,Y,Y,Y,N]) (by kernel_rfl) (fun _ _ _ _ h => h) R (Jb (ja R) 0 R (((k34.toNat : Nat) : Int) + (w64 (k54 - (1 : Int)))) 0 R (⟨#[]⟩ : ByteArray) hq153 (Sub.self kStr) ty_9) ?_
          refine AtH.take [0] hgd 9 R R R R (D' := #[Y,Y,Y,Y,Y,Y,Y,Y,Y,Y]) (by kernel_rfl) (fun _ _ _ _ h => h) R (jk (ja R) (ja R) bin_sneq) ?_
          refine AtH.done (by kernel_rfl) ?_
          refine At.vg ?_
          refine At.cond (ja R) (fun hb42 => ?_) (fun hb42 => ?_)
          ·replace hF := W.ite_t hb42 hF
           refine At.seq (At.region (At.does R R R R (jb (x := (.eq v1)) (ja R)) ?_))
           refine At.does R R R R (jb (x := (.tv (kInt .i64) k53)) (ja R)) ?_
           refine At.does R R R R (jb (x := (cutv k34.toNat s1.length kStr.sz v1)) (ja R)) ?_
           refine At.does R R R R (jb (x := (.tv (kInt .i64) k54)) (ja R)) ?_
           obtain ⟨hq154, hF⟩ := hF
           refine At.does R R R R (does_idx_cut (ja R) 0 R (ja R) Tryz.underlying41 ty_9 hq154) ?_
           obtain ⟨hq155, hF⟩ := hF
           refine At.does R R R R (Jb (ja R) 0 R (((k34.toNat : Nat) : Int) + k54) 0 R (⟨#[]⟩ : ByteArray) hq155 (Sub.self kStr) ty_9) ?_
           obtain ⟨hq156, hF⟩ := hF
           refine At.does R R R R (does_idx_row (ja R) 0 R (ja R) Tryz.underlying41 ty_9 hq156) ?_
           obtain ⟨hq157, hF⟩ := hF
           refine At.eff R (eff_store_elem R R (ja R) 0 R k53 0 R (⟨#[]⟩ : ByteArray) hq157 (Sub.self kStr) ty_9 (ja R)) ?_
           rintro _ _ ⟨rfl, rfl⟩
           refine At.done (At.vg (At.region (At.does R R R R (jb (x := (.tv (kInt .i64) k53)) (ja R)) ?_)))
           refine At.does R R R R (jk (ja R) (ji _ _) jz) ?_
           refine At.does R R R R (jd (x := (.tv (kInt .i64) (w64 (k53 + (1 : Int))))) (ja R)) ?_
           refine At.done ?_
           refine At.block_normal ?_
           refine At.vg (At.region (At.does R R R R (jb (x := (.tv (kInt .i64) k54)) (ja R)) ?_))
           refine At.does R R R R (jk (ja R) (ji _ _) jz) ?_
           refine At.does R R R R (jd (x := (.tv (kInt .i64) (w64 (k54 + (1 : Int))))) (ja R)) ?_
           refine At.done (At.vg ?_)
           refine At.weaken [0] R [(0, (.eq v1)), (3, (.tv (kInt .i64) (w64 (k53 + (1 : Int))))), (4, (cutv k34.toNat s1.length kStr.sz v1)), (5, (.tv (kInt .i64) (w64 (k54 + (1 : Int)))))] ⟨R, R, R, R, trivial⟩ (At.reach ⟨(x27.set k53.toNat (rd (⟨#[]⟩ : ByteArray) x27 (((k34.toNat : Nat) : Int) + k54))), (w64 (k53 + (1 : Int))), (w64 (k54 + (1 : Int))), hF, R, R⟩)
          ·replace hF := W.ite_f hb42 hF
           refine At.skip ?_
           refine At.block_normal ?_
           refine At.vg (At.region (At.does R R R R (jb (x := (.tv (kInt .i64) k54)) (ja R)) ?_))
           refine At.does R R R R (jk (ja R) (ji _ _) jz) ?_
           refine At.does R R R R (jd (x := (.tv (kInt .i64) (w64 (k54 + (1 : Int))))) (ja R)) ?_
           refine At.done (At.vg ?_)
           refine At.weaken [0] R [(0, (.eq v1)), (3, (.tv (kInt .i64) k53)), (4, (cutv k34.toNat s1.length kStr.sz v1)), (5, (.tv (kInt .i64) (w64 (k54 + (1 : Int)))))] ⟨R, R, R, R, trivial⟩ (At.reach ⟨x27, k53, (w64 (k54 + (1 : Int))), hF, R, R⟩)
         ·replace hF := W.ite_f hb41 hF
          refine At.exit ?_
          refine At.then_exit (At.then_exit ?_)
          refine At.block_here ?_
          refine At.vg ?_
          refine At.weaken [0] R [(0, (.eq v1)), (3, (.tv (kInt .i64) k53))] ⟨R, R, trivial⟩ (At.reach ⟨x27, k53, hF, R, R⟩)
       ·rintro _ _ ⟨x24, k48, hF, rfl, rfl⟩
        unfold vm.c3 at hF
        refine At.seq (At.region (At.does R R R R (jb (x := (.eq v1)) (ja R)) ?_))
        refine At.does R R R R (jb (x := (.tv (kInt .i64) k48)) (ja R)) ?_
        obtain ⟨hq130, hF⟩ := hF
        refine At.does R R R R (does_cutrow_l (ja R) 0 R (ja R) Tryz.underlying41 ty_9 hq130) ?_
        obtain ⟨hq131, hF⟩ := hF
        refine At.eff R (eff_clear_cut R R 0 R (ja R) hq131 Tryz.underlying41 tz_9) ?_
        rintro _ _ ⟨rfl, rfl⟩
        refine At.done (At.vg (At.seq (At.region (At.does R R R R (jb (x := (.eq v1)) (ja R)) ?_))))
        refine At.does R R R R (jb (x := (.tv (kInt .i64) k48)) (ja R)) ?_
        obtain ⟨hq132, hF⟩ := hF
        refine At.does R R R R (does_cutrow_h (ja R) 0 R (ja R) Tryz.underlying41 ty_9 hq132) ?_
        refine At.does R R R R (jd (x := (cutv 0 k48.toNat kStr.sz v1)) (ja R)) ?_
        refine At.done (At.vg (At.ret ?_))
        refine At.block_ret ?_
        refine At.vh (At.vh ?_)
        refine At.block_ret ?_
        refine At.vh ?_
        obtain ⟨hq133, hF⟩ := hF
        refine At.cutrow 0 2 R R hq133 (fun v2 => ?_)
        exact At.ret_1 rfl (rv_tmp rfl) [0] rfl ⟨((x24.take k48.toNat ++ (List.replicate (x24.length - k48.toNat) (⟨#[]⟩ : ByteArray) ++ x24.drop x24.length)).take k48.toNat), _, hF, rfl, rfl⟩
      ·replace hF := W.ite_f hb32 hF
       refine At.skip ?_
       refine At.block_normal ?_
       refine At.vg ?_
       refine At.weaken [0] R [(0, (.eq v1)), (3, (.tv (kInt .i64) k34))] ⟨R, R, trivial⟩ (At.reach ⟨(), hF, R, R⟩)
     ·rintro _ _ ⟨_, hF, rfl, rfl⟩
      unfold vm.c2 at hF
      refine At.region (At.does R R R R (jb (x := (.tv (kInt .i64) k34)) (ja R)) ?_)
      refine At.does R R R R (jk (ja R) (ji _ _) jz) ?_
      refine At.does R R R R (jd (x := (.tv (kInt .i64) (w64 (k34 + (1 : Int))))) (ja R)) ?_
      refine At.done (At.vg ?_)
      refine At.weaken [0] R [(0, (.eq v1)), (3, (.tv (kInt .i64) (w64 (k34 + (1 : Int)))))] ⟨R, R, trivial⟩ (At.reach ⟨(w64 (k34 + (1 : Int))), hF, R, R⟩)
    ·replace hF := W.ite_f hb26 hF
     refine At.exit ?_
     refine At.then_exit (At.then_exit ?_)
     refine At.block_here ?_
     refine At.vg ?_
     refine At.weaken [0] R [(0, (.eq v1))] ⟨R, trivial⟩ (At.reach ⟨(), hF, R, R⟩)
  ·rintro _ _ ⟨_, hF, rfl, rfl⟩
   unfold vm.c1 at hF
   refine At.seq (At.region (At.does R R R R (jb (x := (.eq v1)) (ja R)) ?_))
   refine At.does R R R R (jd (x := (.eq v1)) (ja R)) ?_
   refine At.done (At.vg (At.ret ?_))
   exact At.ret_1 rfl (rv_tmp rfl) [0] rfl ⟨s1, _, hF, rfl, rfl⟩
def Je.c1 (s1 : (List ByteArray)) (s2 : (List ByteArray)) : W Int := W.ite (decide ((s1.length : Int) < (s2.length : Int))) (W.ret (-1 : Int)) (W.ret (0 : Int))
def Je.l1 (s1 : (List ByteArray)) (s2 : (List ByteArray)) (K1 : W Int) (A1 : Int → W Int) (t6 : Int) : W Int := W.ite (decide (t6 < (s1.length : Int))) (W.req (0 ≤ t6 ∧ t6 < (s1.length : Int)) (W.ite (decide ((s2.length : Int) ≤ t6)) (W.ret (1 : Int)) (W.req (0 ≤ t6 ∧ t6 < (s2.length : Int)) (W.bind (cmp_Compare_string.F (rd (⟨#[]⟩ : ByteArray) s1 t6) (rd (⟨#[]⟩ : ByteArray) s2 t6)) (fun r5 => W.ite (r5 != (0 : Int)) (W.ret r5) (A1 (w64 (t6 + (1 : Int))))))))) (K1)
def Je.F (s1 : (List ByteArray)) (s2 : (List ByteArray)) : W Int := W.ex fun n => W.iter1 (Je.l1 s1 s2 (Je.c1 s1 s2)) n (0 : Int)
theorem Je.ok {s1 : (List ByteArray)} {s2 : (List ByteArray)} {Q : Int → Prop} (hF : Je.F s1 s2 Q) : Con Tryz.prog 41 [.tv (kSlice kStr) s1, .tv (kSlice kStr) s2] [] (fun ta rs' => ∃ (r : Int), Q r ∧ ta = .tv (kInt .i64) r ∧ rs' = []) := by
 refine Con.intro' Tryz.func41 Tryz.ntmps41 R R (fun C => ?_)
 unfold Je.F at hF
 refine At.seq (At.region (At.does R R R R (jd (x := (.tv (kInt .i64) (0 : Int))) (ji _ _)) ?_))
 refine At.done (At.vg ?_)
 refine At.cut (fun rs L => ∃ _ : Unit, Je.c1 s1 s2 Q ∧ rs = [] ∧ L = mkL [(0, (.tv (kSlice kStr) s1)), (1, (.tv (kSlice kStr) s2))]) ?_ ?_
 ·refine At.seq (At.region (At.does R R R R (jb (x := (.tv (kSlice kStr) s1)) (ja R)) ?_))
  refine At.does R R R R (js (ja R) Tryz.underlying41) ?_
  refine At.does R R R R (jb (x := (.tv (kInt .i64) (0 : Int))) (ji _ _)) ?_
  refine At.done (At.vg (At.block ?_))
  obtain ⟨n1, hF⟩ := hF
  refine At.weaken [] R [(0, (.tv (kSlice kStr) s1)), (1, (.tv (kSlice kStr) s2)), (9, (.tv (kSlice kStr) s1)), (10, (.tv (kInt .i64) (s1.length : Int))), (11, (.tv (kInt .i64) (0 : Int)))] ⟨R, R, R, R, R, trivial⟩ ?_
  refine At.loop (fun m rs L => ∃ (t6 : Int), W.iter1 (Je.l1 s1 s2 (Je.c1 s1 s2)) m t6 Q ∧ rs = [] ∧ L = mkL [(0, (.tv (kSlice kStr) s1)), (1, (.tv (kSlice kStr) s2)), (9, (.tv (kSlice kStr) s1)), (10, (.tv (kInt .i64) (s1.length : Int))), (11, (.tv (kInt .i64) t6))]) ?_ ?_ (m := n1) ⟨(0 : Int), hF, R, R⟩
  ·rintro rs L ⟨_, hF, _, _⟩; exact hF
  ·rintro m1 _ _ ⟨t6, hF, rfl, rfl⟩
   replace hF := W.iter1_s hF
   unfold Je.l1 at hF
   refine At.seq (At.region (At.does R R R R (jk (ja R) (ja R) vc) ?_))
   refine At.done (At.vg (At.seq ?_))
   refine At.cond (ja R) (fun hb14 => ?_) (fun hb14 => ?_)
   ·replace hF := W.ite_t hb14 hF
    refine At.skip (At.vg (At.seq (At.block (At.seq (At.region (At.does R R R R (jb (x := (.tv (kInt .i64) t6)) (ja R)) ?_))))))
    obtain ⟨hq9, hF⟩ := hF
    refine At.does R R R R (ve (⟨#[]⟩ : ByteArray) (ja R) (ja R) Tryz.underlying41 ty_9 hq9) ?_
    refine At.does R R R R (vp (K := kStr) (ja R) ty_9) ?_
    refine At.does R R R R (jd (x := (.tv (kInt .i64) t6)) (ja R)) ?_
    refine At.does R R R R (jd (x := (.tv kStr (rd (⟨#[]⟩ : ByteArray) s1 t6))) (ja R)) ?_
    refine At.done (At.vg (At.seq (At.seq (At.region (At.does R R R R (jb (x := (.tv (kInt .i64) t6)) (ja R)) ?_)))))
    refine At.does R R R R (jb (x := (.tv (kSlice kStr) s2)) (ja R)) ?_
    refine At.does R R R R (js (ja R) Tryz.underlying41) ?_
    refine At.does R R R R (jk (ja R) (ja R) bin_geq) ?_
    refine At.done (At.vg ?_)
    refine At.cond (ja R) (fun hb15 => ?_) (fun hb15 => ?_)
    ·replace hF := W.ite_t hb15 hF
     refine At.seq (At.region (At.does R R R R (jd (x := (.tv (kInt .i64) (1 : Int))) (ji _ _)) ?_))
     refine At.done (At.vg (At.ret (At.vh ?_)))
     refine At.block_ret ?_
     refine At.vh (At.vh ?_)
     refine At.block_ret ?_
     refine At.vh ?_
     exact At.ret_1 rfl (rv_tmp rfl) [] rfl ⟨(1 : Int), hF, rfl, rfl⟩
    ·replace hF := W.ite_f hb15 hF
     refine At.skip (At.vg (At.seq (At.region (At.does R R R R (jb (x := (.tv (kSlice kStr) s2)) (ja R)) ?_))))
     refine At.does R R R R (jb (x := (.tv (kInt .i64) t6)) (ja R)) ?_
     obtain ⟨hq10, hF⟩ := hF
     refine At.does R R R R (ve (⟨#[]⟩ : ByteArray) (ja R) (ja R) Tryz.underlying41 ty_9 hq10) ?_
     refine At.does R R R R (vp (K := kStr) (ja R) ty_9) ?_
     refine At.does R R R R (jd (x := (.tv kStr (rd (⟨#[]⟩ : ByteArray) s2 t6))) (ja R)) ?_
     refine At.done (At.vg (At.seq (At.region (At.does R R R R (jb (x := (.tv kStr (rd (⟨#[]⟩ : ByteArray) s1 t6))) (ja R)) ?_))))
     refine At.does R R R R (jb (x := (.tv kStr (rd (⟨#[]⟩ : ByteArray) s2 t6))) (ja R)) ?_
     replace hF := W.vl hF
     refine At.eff R (jn R R jp (jq R en_73 (jf (ja R) (jf (ja R) jg))) (cmp_Compare_string.ok hF) (by rintro _ _ ⟨r, _, rfl, _⟩; exact flat_int)) ?_
     rintro _ _ ⟨_, _, ⟨r5, hF, rfl, rfl⟩, rfl, rfl⟩
     refine At.does R R R R (jd (x := (.tv (kInt .i64) r5)) (ja R)) ?_
     refine At.done (At.vg (At.seq (At.region (At.does R R R R (jb (x := (.tv (kInt .i64) r5)) (ja R)) ?_))))
     refine At.does R R R R (jk (ja R) (ji _ _) bin_neq) ?_
     refine At.done (At.vg ?_)
     refine At.cond (ja R) (fun hb16 => ?_) (fun hb16 => ?_)
     ·replace hF := W.ite_t hb16 hF
      refine At.seq (At.region (At.does R R R R (jb (x := (.tv (kInt .i64) r5)) (ja R)) ?_))
      refine At.does R R R R (jd (x := (.tv (kInt .i64) r5)) (ja R)) ?_
      refine At.done (At.vg (At.ret ?_))
      refine At.block_ret ?_
      refine At.vh (At.vh ?_)
      refine At.block_ret ?_
      refine At.vh ?_
      exact At.ret_1 rfl (rv_tmp rfl) [] rfl ⟨r5, hF, rfl, rfl⟩
     ·replace hF := W.ite_f hb16 hF
      refine At.skip ?_
      refine At.block_normal ?_
      refine At.vg (At.region (At.does R R R R (jk (ja R) (ji _ _) jz) ?_))
      refine At.does R R R R (jb (x := (.tv (kInt .i64) (w64 (t6 + (1 : Int))))) (ja R)) ?_
      refine At.done (At.vg ?_)
      refine At.weaken [] R [(0, (.tv (kSlice kStr) s1)), (1, (.tv (kSlice kStr) s2)), (9, (.tv (kSlice kStr) s1)), (10, (.tv (kInt .i64) (s1.length : Int))), (11, (.tv (kInt .i64) (w64 (t6 + (1 : Int)))))] ⟨R, R, R, R, R, trivial⟩ (At.reach ⟨(w64 (t6 + (1 : Int))), hF, R, R⟩)
   ·replace hF := W.ite_f hb14 hF
    refine At.exit ?_
    refine At.then_exit (At.then_exit ?_)
    refine At.block_here ?_
    refine At.vg ?_
    refine At.weaken [] R [(0, (.tv (kSlice kStr) s1)), (1, (.tv (kSlice kStr) s2))] ⟨R, R, trivial⟩ (At.reach ⟨(), hF, R, R⟩)
 ·rintro _ _ ⟨_, hF, rfl, rfl⟩
  unfold Je.c1 at hF
  refine At.seq (At.seq (At.region (At.does R R R R (jb (x := (.tv (kSlice kStr) s1)) (ja R)) ?_)))
  refine At.does R R R R (js (ja R) Tryz.underlying41) ?_
  refine At.does R R R R (jb (x := (.tv (kSlice kStr) s2)) (ja R)) ?_
  refine At.does R R R R (js (ja R) Tryz.underlying41) ?_
  refine At.does R R R R (jk (ja R) (ja R) vc) ?_
  refine At.done (At.vg ?_)
  refine At.cond (ja R) (fun hb7 => ?_) (fun hb7 => ?_)
  ·replace hF := W.ite_t hb7 hF
   refine At.seq (At.region (At.does R R R R (jd (x := (.tv (kInt .i64) (-1 : Int))) (ji _ _)) ?_))
   refine At.done (At.vg (At.ret (At.vh ?_)))
   exact At.ret_1 rfl (rv_tmp rfl) [] rfl ⟨(-1 : Int), hF, rfl, rfl⟩
  ·replace hF := W.ite_f hb7 hF
   refine At.skip (At.vg (At.seq (At.region (At.does R R R R (jd (x := (.tv (kInt .i64) (0 : Int))) (ji _ _)) ?_))))
   refine At.done (At.vg (At.ret ?_))
   exact At.ret_1 rfl (rv_tmp rfl) [] rfl ⟨(0 : Int), hF, rfl, rfl⟩
def border_Check_2.F (a1 : Violation) (b1 : Violation) : W Int := W.bind (Je.F a1.Ids b1.Ids) (fun r1 => W.ret r1)
theorem border_Check_2.ok {a1 : Violation} {b1 : Violation} {Q : Int → Prop} (hF : border_Check_2.F a1 b1 Q) : Con Tryz.prog 40 [.tv kViolation a1, .tv kViolation b1] [] (fun ta rs' => ∃ (r : Int), Q r ∧ ta = .tv (kInt .i64) r ∧ rs' = []) := by
 refine Con.intro' Tryz.func40 Tryz.ntmps40 R R (fun C => ?_)
 unfold border_Check_2.F at hF
 refine At.seq (At.region (At.eff R (jw R R R (ja R)) ?_))
 rintro _ _ ⟨g1, rfl, rfl⟩
 refine At.eff R (jw R R R (ja R)) ?_
 rintro _ _ ⟨g2, rfl, rfl⟩
 refine At.does R R R R (jd (x := (.tv (kInt .i64) (0 : Int))) (ji _ _)) ?_
 refine At.done (At.vg (At.seq (At.region (At.does R R R R (je (ja R) fa_43_2) ?_))))
 refine At.does R R R R (jc (ja R) 1 R sub_Violation_2 ty_41) ?_
 refine At.does R R R R (je (ja R) fa_43_2) ?_
 refine At.does R R R R (jc (ja R) 0 R sub_Violation_2 ty_41) ?_
 replace hF := W.vl hF
 refine At.eff R (jn R R jp (jq R en_41 (jf (ja R) (jf (ja R) jg))) (Je.ok hF) (by rintro _ _ ⟨r, _, rfl, _⟩; exact flat_int)) ?_
 rintro _ _ ⟨_, _, ⟨r1, hF, rfl, rfl⟩, rfl, rfl⟩
 refine At.does R R R R (jd (x := (.tv (kInt .i64) r1)) (ja R)) ?_
 refine At.done (At.vg (At.ret ?_))
 exact At.ret_1 rfl (rv_tmp rfl) [] rfl ⟨r1, hF, rfl, rfl⟩
def slices_SortFunc_api_Violation_api_Violation__o_border_Check_2.F (x : (List Violation)) : W (List Violation) := W.sort (fun a b => border_Check_2.F a b) x W.ret
theorem slices_SortFunc_api_Violation_api_Violation__o_border_Check_2.ok {x : (List Violation)} {u : Value} {Q : (List Violation) → Prop} (hF : slices_SortFunc_api_Violation_api_Violation__o_border_Check_2.F x Q) : Con Tryz.prog 39 [.eq u, .cls 40 0 (tupl [])] [.row u 43 kViolation x] (fun ta rs' => ∃ (r : (List Violation)), Q r ∧ ta = .eq (.tuple #[]) ∧ rs' = [.row u 43 kViolation r]) := by
 obtain ⟨hl, cf, hO, hc, hk⟩ := hF
 exact (con_sortFunc Tryz.sort39 rfl rfl ty_43 en_40 (fun a b ha hb => (border_Check_2.ok (hc a b ha hb)).mono (by rintro ta rs' ⟨r, rfl, rfl, rfl⟩; rfl)) hO hl).mono (by rintro ta rs' ⟨ys, hp, hs, rfl, rfl⟩; exact ⟨ys, hk ys hp hs, rfl, rfl⟩)
end Go.Gp.Gb
end
