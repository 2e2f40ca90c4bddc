/- A part of the proof: see the last part. -/
import Derived.Test.YtfophhmfbofjiaaGreatP3x01
section
set_option linter.unusedVariables false
set_option linter.unusedSimpArgs false
set_option maxRecDepth 100000
namespace Go.Gp.Gb
open Go.Proofs
def vo.c4 (t18:Int) (A1:(List ((Int×Int)×Int))→Int→W (List ((Int×Int)×Int))) (x33:(List ((Int×Int)×Int))):W (List ((Int×Int)×Int)):=A1 x33 (w64 (t18+(1:Int)))
def vo.l2 (all1:(List Segment)) (list1:(List Int)) (t18:Int) (K4:(List ((Int×Int)×Int))→W (List ((Int×Int)×Int))) (A2:(List ((Int×Int)×Int))→Int→W (List ((Int×Int)×Int))) (x36:(List ((Int×Int)×Int))) (t24:Int):W (List ((Int×Int)×Int)):=W.ite (decide (t24<((cut_l list1 (w64 (t18+(1:Int)))).length:Int))) (W.req (0≤t24∧t24<((cut_l list1 (w64 (t18+(1:Int)))).length:Int)) (W.req (0≤(rd (0:Int) list1 t18)∧(rd (0:Int) list1 t18)<(all1.length:Int)) (W.req (0≤(rd (0:Int) (cut_l list1 (w64 (t18+(1:Int)))) t24)∧(rd (0:Int) (cut_l list1 (w64 (t18+(1:Int)))) t24)<(all1.length:Int)) (W.bind (geom_Meets.F (rd zSegment all1 (rd (0:Int) list1 t18)) (rd zSegment all1 (rd (0:Int) (cut_l list1 (w64 (t18+(1:Int)))) t24))) (fun r12=>W.ite (r12 != (0:Int)) (A2 (mset ((rd (0:Int) list1 t18),(rd (0:Int) (cut_l list1 (w64 (t18+(1:Int)))) t24)) r12 x36) (w64 (t24+(1:Int)))) (A2 x36 (w64 (t24+(1:Int))))))))) (K4 x36)
def vo.l1 (all1:(List Segment)) (list1:(List Int)) (A1:(List ((Int×Int)×Int))→Int→W (List ((Int×Int)×Int))) (x29:(List ((Int×Int)×Int))) (t18:Int):W (List ((Int×Int)×Int)):=W.ite (decide (t18<(list1.length:Int))) (W.req (0≤t18∧t18<(list1.length:Int)) (W.req (0≤(w64 (t18+(1:Int)))∧(w64 (t18+(1:Int)))≤(list1.length:Int)) (W.ex fun n=>W.iter2 (vo.l2 all1 list1 t18 (vo.c4 t18 A1)) n x29 (0:Int)))) (W.ret x29)
def vo.c3 (self:(List Segment)→(List Int)→(List ((Int×Int)×Int))→W (List ((Int×Int)×Int))) (all1:(List Segment)) (list1:(List Int)) (found1:(List ((Int×Int)×Int))) (x17:(List Int)) (x18:(List Int)):W (List ((Int×Int)×Int)):=W.ite ((decide ((x17.length:Int)<(list1.length:Int)))&&(decide ((x18.length:Int)<(list1.length:Int)))) (W.bind (self all1 x17 found1) (fun r2=>W.bind (self all1 x18 r2) (fun r3=>W.ret r3))) (W.ex fun n=>W.iter2 (vo.l1 all1 list1) n found1 (0:Int))
def vo.c5 (all1:(List Segment)) (list1:(List Int)) (low6:Int) (high6:Int) (x44:(List Int)) (t27:Int) (A3:(List Int)→(List Int)→Int→W (List ((Int×Int)×Int))) (x45:(List Int)):W (List ((Int×Int)×Int)):=W.req (0≤(rd (0:Int) list1 t27)∧(rd (0:Int) list1 t27)<(all1.length:Int)) (W.ite (decide ((w64 (low6+(w64 (Int.tdiv (w64 (high6-low6)) (2:Int)))))<(if (((rd zSegment all1 (rd (0:Int) list1 t27)).A).X)<(((rd zSegment all1 (rd (0:Int) list1 t27)).B).X) then (((rd zSegment all1 (rd (0:Int) list1 t27)).B).X) else (((rd zSegment all1 (rd (0:Int) list1 t27)).A).X)))) (W.req ((x44.length+([(rd (0:Int) list1 t27)]:List Int).length)*8≤140737488355328∧x44.length+([(rd (0:Int) list1 t27)]:List Int).length≤140737488355328) (A3 x45 (x44++([(rd (0:Int) list1 t27)]:List Int)) (w64 (t27+(1:Int))))) (A3 x45 x44 (w64 (t27+(1:Int)))))
def vo.l3 (all1:(List Segment)) (list1:(List Int)) (low6:Int) (high6:Int) (K3:(List Int)→(List Int)→W (List ((Int×Int)×Int))) (A3:(List Int)→(List Int)→Int→W (List ((Int×Int)×Int))) (x43:(List Int)) (x44:(List Int)) (t27:Int):W (List ((Int×Int)×Int)):=W.ite (decide (t27<(list1.length:Int))) (W.req (0≤t27∧t27<(list1.length:Int)) (W.req (0≤(rd (0:Int) list1 t27)∧(rd (0:Int) list1 t27)<(all1.length:Int)) (W.ite (decide ((if (((rd zSegment all1 (rd (0:Int) list1 t27)).B).X)<(((rd zSegment all1 (rd (0:Int) list1 t27)).A).X) then (((rd zSegment all1 (rd (0:Int) list1 t27)).B).X) else (((rd zSegment all1 (rd (0:Int) list1 t27)).A).X))≤(w64 (low6+(w64 (Int.tdiv (w64 (high6-low6)) (2:Int))))))) (W.req ((x43.length+([(rd (0:Int) list1 t27)]:List Int).length)*8≤140737488355328∧x43.length+([(rd (0:Int) list1 t27)]:List Int).length≤140737488355328) ((vo.c5 all1 list1 low6 high6 x44 t27 A3) (x43++([(rd (0:Int) list1 t27)]:List Int)))) ((vo.c5 all1 list1 low6 high6 x44 t27 A3) x43)))) (K3 x43 x44)
def vo.c2 (self:(List Segment)→(List Int)→(List ((Int×Int)×Int))→W (List ((Int×Int)×Int))) (all1:(List Segment)) (list1:(List Int)) (found1:(List ((Int×Int)×Int))) (low6:Int) (high6:Int):W (List ((Int×Int)×Int)):=W.ex fun n=>W.iter3 (vo.l3 all1 list1 low6 high6 (vo.c3 self all1 list1 found1)) n ([]:List Int) ([]:List Int) (0:Int)
def vo.c6 (x49:(List ((Int×Int)×Int))):W (List ((Int×Int)×Int)):=W.ret x49
def vo.l4 (list1:(List Int)) (r13:((List Meet)×Int)) (K6:(List ((Int×Int)×Int))→W (List ((Int×Int)×Int))) (A4:(List ((Int×Int)×Int))→Int→W (List ((Int×Int)×Int))) (x52:(List ((Int×Int)×Int))) (t33:Int):W (List ((Int×Int)×Int)):=W.ite (decide (t33<(r13.1.length:Int))) (W.req (0≤t33∧t33<(r13.1.length:Int)) (W.req (0≤t33∧t33<(r13.1.length:Int)) (W.req (0≤((rd zMeet r13.1 t33).A)∧((rd zMeet r13.1 t33).A)<(list1.length:Int)) (W.req (0≤((rd zMeet r13.1 t33).B)∧((rd zMeet r13.1 t33).B)<(list1.length:Int)) (A4 (mset ((rd (0:Int) list1 ((rd zMeet r13.1 t33).A)),(rd (0:Int) list1 ((rd zMeet r13.1 t33).B))) ((rd zMeet r13.1 t33).Kind) x52) (w64 (t33+(1:Int)))))))) (K6 x52)
def vo.c1 (self:(List Segment)→(List Int)→(List ((Int×Int)×Int))→W (List ((Int×Int)×Int))) (all1:(List Segment)) (list1:(List Int)) (found1:(List ((Int×Int)×Int))) (x4:(List Segment)) (low6:Int) (high6:Int):W (List ((Int×Int)×Int)):=W.ite (decide ((x4.length:Int)≤(20000:Int))) (W.bind (sweep_All.F x4) (fun r13=>W.ex fun n=>W.iter2 (vo.l4 list1 r13 (vo.c6)) n found1 (0:Int))) ((vo.c2 self all1 list1 found1 low6 high6))
def vo.c7 (all1:(List Segment)) (list1:(List Int)) (x55:(List Segment)) (t36:Int) (A5:(List Segment)→Int→Int→Int→W (List ((Int×Int)×Int))) (low12:Int) (high12:Int):W (List ((Int×Int)×Int)):=A5 (x55++([(rd zSegment all1 (rd (0:Int) list1 t36))]:List Segment)) (iMin [low12,(rd zSegment all1 (rd (0:Int) list1 t36)).A.X,(rd zSegment all1 (rd (0:Int) list1 t36)).B.X]) (iMax [high12,(rd zSegment all1 (rd (0:Int) list1 t36)).A.X,(rd zSegment all1 (rd (0:Int) list1 t36)).B.X]) (w64 (t36+(1:Int)))
def vo.l5 (all1:(List Segment)) (list1:(List Int)) (K1:(List Segment)→Int→Int→W (List ((Int×Int)×Int))) (A5:(List Segment)→Int→Int→Int→W (List ((Int×Int)×Int))) (x55:(List Segment)) (low11:Int) (high11:Int) (t36:Int):W (List ((Int×Int)×Int)):=W.ite (decide (t36<(list1.length:Int))) (W.req (0≤t36∧t36<(list1.length:Int)) (W.req (0≤(rd (0:Int) list1 t36)∧(rd (0:Int) list1 t36)<(all1.length:Int)) (W.req ((x55.length+([(rd zSegment all1 (rd (0:Int) list1 t36))]:List Segment).length)*32≤140737488355328∧x55.length+([(rd zSegment all1 (rd (0:Int) list1 t36))]:List Segment).length≤140737488355328) (W.ite (t36==(0:Int)) ((vo.c7 all1 list1 x55 t36 A5) (if ((rd zSegment all1 (rd (0:Int) list1 t36)).B.X)<((rd zSegment all1 (rd (0:Int) list1 t36)).A.X) then ((rd zSegment all1 (rd (0:Int) list1 t36)).B.X) else ((rd zSegment all1 (rd (0:Int) list1 t36)).A.X)) (if ((rd zSegment all1 (rd (0:Int) list1 t36)).A.X)<((rd zSegment all1 (rd (0:Int) list1 t36)).B.X) then ((rd zSegment all1 (rd (0:Int) list1 t36)).B.X) else ((rd zSegment all1 (rd (0:Int) list1 t36)).A.X))) ((vo.c7 all1 list1 x55 t36 A5) low11 high11))))) (K1 x55 low11 high11)
def vo.G (self:(List Segment)→(List Int)→(List ((Int×Int)×Int))→W (List ((Int×Int)×Int))) (all1:(List Segment)) (list1:(List Int)) (found1:(List ((Int×Int)×Int))):W (List ((Int×Int)×Int)):=W.ex fun n=>W.iter4 (vo.l5 all1 list1 (vo.c1 self all1 list1 found1)) n ([]:List Segment) (0:Int) (0:Int) (0:Int)
def vo.Fn:Nat→(List Segment)→(List Int)→(List ((Int×Int)×Int))→W (List ((Int×Int)×Int))
 | 0=>fun _ _ _=>W.fail
 | n+1=>vo.G (vo.Fn n)
def vo.F (all1:(List Segment)) (list1:(List Int)) (found1:(List ((Int×Int)×Int))):W (List ((Int×Int)×Int)):=W.ex fun n=>vo.Fn n all1 list1 found1
theorem vo.okn (n:Nat):∀ {all1:(List Segment)} {list1:(List Int)} {found1:(List ((Int×Int)×Int))} {g1:Nat} {Q:(List ((Int×Int)×Int))→Prop},vo.Fn n all1 list1 found1 Q→Con Tryz.prog 37 [.tv (kSlice kSegment) all1,.tv (kSlice (kInt .i64)) list1,.eq (.map (some g1))] [.map g1 (kPair (kInt .i64) (kInt .i64)) (kInt .i64) found1] (fun ta rs'=>∃ (r:(List ((Int×Int)×Int))),Q r∧ta=.eq (.tuple #[])∧rs'=[.map g1 (kPair (kInt .i64) (kInt .i64)) (kInt .i64) r]):=by
 induction n with
 | zero=>intro all1 list1 found1 g1 Q hF;exact False.elim hF
 | succ n ih=>
  intro all1 list1 found1 g1 Q hF
  replace hF:vo.G (vo.Fn n) all1 list1 found1 Q:=hF
  refine Con.i Tryz.func37 Tryz.ntmps37 R R (fun C=>?_)
  unfold vo.G at hF
  refine At.seq (At.region (At.d R R R R (jd (x:=(.eq (.slice none 0 0))) (opd_eq _)) ?_))
  refine At.done (At.vh (At.seq (At.region (At.d R R R R (jd (x:=(.tv (kInt .i64) (0:Int))) (ji _ _)) ?_))))
  refine At.d R R R R (jd (x:=(.tv (kInt .i64) (0:Int))) (ji _ _)) ?_
  refine At.done (At.vh ?_)
  refine At.cut (fun rs L=>∃ (x4:(List Segment)) (v8:Value) (low6:Int) (high6:Int),vo.c1 (vo.Fn n) all1 list1 found1 x4 low6 high6 Q∧rs=[.map g1 (kPair (kInt .i64) (kInt .i64)) (kInt .i64) found1,.row v8 39 kSegment x4]∧L=mkL [(0,(.tv (kSlice kSegment) all1)),(1,(.tv (kSlice (kInt .i64)) list1)),(2,(.eq (.map (some g1)))),(6,(.eq v8)),(7,(.tv (kInt .i64) low6)),(8,(.tv (kInt .i64) high6))]) ?_ ?_
  ·refine At.seq (At.region (At.d R R R R (jb (x:=(.tv (kSlice (kInt .i64)) list1)) (ja R)) ?_))
   refine At.d R R R R (js (ja R) Tryz.underlying89) ?_
   refine At.d R R R R (jb (x:=(.tv (kInt .i64) (0:Int))) (ji _ _)) ?_
   refine At.done (At.vh (At.block ?_))
   refine At.nilrow 39 kSegment ?_
   obtain ⟨n5,hF⟩:=hF
   refine At.w [1,0] R [(0,(.tv (kSlice kSegment) all1)),(1,(.tv (kSlice (kInt .i64)) list1)),(2,(.eq (.map (some g1)))),(6,(.eq (.slice none 0 0))),(7,(.tv (kInt .i64) (0:Int))),(8,(.tv (kInt .i64) (0:Int))),(26,(.tv (kSlice (kInt .i64)) list1)),(27,(.tv (kInt .i64) (list1.length:Int))),(28,(.tv (kInt .i64) (0:Int)))] ⟨R,R,R,R,R,R,R,R,R,trivial⟩ ?_
   refine At.loop (fun m rs L=>∃ (x55:(List Segment)) (v58:Value) (low11:Int) (high11:Int) (t36:Int),W.iter4 (vo.l5 all1 list1 (vo.c1 (vo.Fn n) all1 list1 found1)) m x55 low11 high11 t36 Q∧rs=[.map g1 (kPair (kInt .i64) (kInt .i64)) (kInt .i64) found1,.row v58 39 kSegment x55]∧L=mkL [(0,(.tv (kSlice kSegment) all1)),(1,(.tv (kSlice (kInt .i64)) list1)),(2,(.eq (.map (some g1)))),(6,(.eq v58)),(7,(.tv (kInt .i64) low11)),(8,(.tv (kInt .i64) high11)),(26,(.tv (kSlice (kInt .i64)) list1)),(27,(.tv (kInt .i64) (list1.length:Int))),(28,(.tv (kInt .i64) t36))]) ?_ ?_ (m:=n5) ⟨([]:List Segment),(.slice none 0 0),(0:Int),(0:Int),(0:Int),hF,R,R⟩
   ·rintro rs L ⟨_,_,_,_,_,hF,_,_⟩;exact hF
   ·rintro m5 _ _ ⟨x55,v58,low11,high11,t36,hF,rfl,rfl⟩
    replace hF:=W.iter4_s hF
    unfold vo.l5 at hF
    refine At.seq (At.region (At.d R R R R (jk (ja R) (ja R) vd) ?_))
    refine At.done (At.vh (At.seq ?_))
    refine At.cond (ja R) (fun hb56=>?_) (fun hb56=>?_)
    ·replace hF:=W.ite_t hb56 hF
     refine At.skip (At.vh (At.seq (At.block (At.seq (At.region (At.d R R R R (jb (x:=(.tv (kInt .i64) t36)) (ja R)) ?_))))))
     obtain ⟨hq103,hF⟩:=hF
     refine At.d R R R R (vf (0:Int) (ja R) (ja R) Tryz.underlying89 ty_3 hq103) ?_
     refine At.d R R R R (vq (K:=(kInt .i64)) (ja R) ty_3) ?_
     refine At.d R R R R (jd (x:=(.tv (kInt .i64) t36)) (ja R)) ?_
     refine At.d R R R R (jd (x:=(.tv (kInt .i64) (rd (0:Int) list1 t36))) (ja R)) ?_
     refine At.done (At.vh (At.seq (At.region (At.d R R R R (jb (x:=(.tv (kSlice kSegment) all1)) (ja R)) ?_))))
     refine At.d R R R R (jb (x:=(.tv (kInt .i64) (rd (0:Int) list1 t36))) (ja R)) ?_
     obtain ⟨hq104,hF⟩:=hF
     refine At.d R R R R (vf zSegment (ja R) (ja R) Tryz.underlying27 ty_39 hq104) ?_
     refine At.d R R R R (vq (K:=kSegment) (ja R) ty_39) ?_
     refine At.f R (eff_alloc R R R tz_39) ?_
     rintro _ _ ⟨g13,rfl,rfl⟩
     refine At.f R (jx R R (ja R) 0 R (Sub.self kSegment) ty_39 (ja R)) ?_
     rintro _ _ ⟨rfl,rfl⟩
     refine At.done (At.vh (At.seq (At.region (At.d R R R R (jb (x:=(.eq v58)) (ja R)) ?_))))
     refine At.d R R R R (jc (ja R) 0 R (Sub.self kSegment) ty_39) ?_
     refine At.f R (jy R R R (os:=[.tmp 38]) R sl_27 (xs:=([(rd zSegment all1 (rd (0:Int) list1 t36))]:List Segment)) (jf (ja R) jg) R R) ?_
     rintro _ _ ⟨v59,rfl,rfl⟩
     obtain ⟨hq105,hF⟩:=hF
     refine At.f R (eff_append_row R R R 3 0 R R (ja R) (ja R) sl_27 hq105) ?_
     rintro _ _ ⟨v60,rfl,rfl⟩
     refine At.d R R R R (jd (x:=(.eq v60)) (ja R)) ?_
     refine At.done (At.vh ?_)
     refine At.cut (fun rs L=>∃ (low12:Int) (high12:Int),vo.c7 all1 list1 x55 t36 (W.iter4 (vo.l5 all1 list1 (vo.c1 (vo.Fn n) all1 list1 found1)) m5) low12 high12 Q∧rs=[.map g1 (kPair (kInt .i64) (kInt .i64)) (kInt .i64) found1,.row v60 39 kSegment (x55++([(rd zSegment all1 (rd (0:Int) list1 t36))]:List Segment)),.box g13 39 kSegment (rd zSegment all1 (rd (0:Int) list1 t36))]∧L=mkL [(0,(.tv (kSlice kSegment) all1)),(1,(.tv (kSlice (kInt .i64)) list1)),(2,(.eq (.map (some g1)))),(6,(.eq v60)),(7,(.tv (kInt .i64) low12)),(8,(.tv (kInt .i64) high12)),(11,(.eq (.pointer (some ⟨g13,0,none⟩)))),(26,(.tv (kSlice (kInt .i64)) list1)),(27,(.tv (kInt .i64) (list1.length:Int))),(28,(.tv (kInt .i64) t36))]) ?_ ?_
     ·refine At.seq (At.region (At.d R R R R (jb (x:=(.tv (kInt .i64) t36)) (ja R)) ?_))
      refine At.d R R R R (jk (ja R) (ji _ _) bin_eql) ?_
      refine At.done (At.vh ?_)
      refine At.cond (ja R) (fun hb58=>?_) (fun hb58=>?_)
      ·replace hF:=W.ite_t hb58 hF
       refine At.draw mixed [0,1,2,3] R [[],[],[],[]] (fun φ w hgd=>?_)
       refine AtH.take [0,1,2,3] hgd 0 R R R R (D':=#[Y,N,N,N,N,N,N,N,N,N,N,N,N,N,N,N]) (by kernel_rfl) (fun _ _ _ _ h=>h) R (je (ja R) fa_39_0) ?_
       refine AtH.take [0,1,2,3] hgd 1 R R R R (D':=#[Y,Y,N,N,N,N,N,N,N,N,N,N,N,N,N,N]) (by kernel_rfl) (fun _ _ _ _ h=>h) R (je (ja R) fa_37_0) ?_
       refine AtH.take [0,1,2,3] hgd 2 R R R R (D':=#[Y,Y,Y,N,N,N,N,N,N,N,N,N,N,N,N,N]) (by kernel_rfl) (fun _ _ _ _ h=>h) R (jc (ja R) 1 R sub_Segment_0_0 ty_3) ?_
       refine AtH.take [0,1,2,3] hgd 3 R R R R (D':=#[Y,Y,Y,Y,N,N,N,N,N,N,N,N,N,N,N,N]) (by kernel_rfl) (fun _ _ _ _ h=>h) R (je (ja R) fa_39_1) ?_
       refine AtH.take [0,1,2,3] hgd 4 R R R R (D':=#[Y,Y,Y,Y,Y,N,N,N,N,N,N,N,N,N,N,N]) (by kernel_rfl) (fun _ _ _ _ h=>h) R (je (ja R) fa_37_0) ?_
       refine AtH.take [0,1,2,3] hgd 5 R R R R (D':=#[Y,Y,Y,Y,Y,Y,N,N,N,N,N,N,N,N,N,N]) (by kernel_rfl) (fun _ _ _ _ h=>h) R (jc (ja R) 1 R sub_Segment_1_0 ty_3) ?_
       refine AtH.take [0,1,2,3] hgd 6 R R R R (D':=#[Y,Y,Y,Y,Y,Y,Y,N,N,N,N,N,N,N,N,N]) (by kernel_rfl) (fun _ _ _ _ h=>h) R (does_min (ja R) (ja R)) ?_
       refine AtH.take [0,1,2,3] hgd 7 R R R R (D':=#[Y,Y,Y,Y,Y,Y,Y,Y,N,N,N,N,N,N,N,N]) (by kernel_rfl) (fun _ _ _ _ h=>h) R (je (ja R) fa_39_0) ?_
       refine AtH.take [0,1,2,3] hgd 8 R R R R (D':=#[Y,Y,Y,Y,Y,Y,Y,Y,Y,N,N,N,N,N,N,N]) (by kernel_rfl) (fun _ _ _ _ h=>h) R (je (ja R) fa_37_0) ?_
       refine AtH.take [0,1,2,3] hgd 9 R R R R (D':=#[Y,Y,Y,Y,Y,Y,Y,Y,Y,Y,N,N,N,N,N,N]) (by kernel_rfl) (fun _ _ _ _ h=>h) R (jc (ja R) 1 R sub_Segment_0_0 ty_3) ?_
       refine AtH.take [0,1,2,3] hgd 10 R R R R (D':=#[Y,Y,Y,Y,Y,Y,Y,Y,Y,Y,Y,N,N,N,N,N]) (by kernel_rfl) (fun _ _ _ _ h=>h) R (je (ja R) fa_39_1) ?_
       refine AtH.take [0,1,2,3] hgd 11 R R R R (D':=#[Y,Y,Y,Y,Y,Y,Y,Y,Y,Y,Y,Y,N,N,N,N]) (by kernel_rfl) (fun _ _ _ _ h=>h) R (je (ja R) fa_37_0) ?_
       refine AtH.take [0,1,2,3] hgd 12 R R R R (D':=#[Y,Y,Y,Y,Y,Y,Y,Y,Y,Y,Y,Y,Y,N,N,N]) (by kernel_rfl) (fun _ _ _ _ h=>h) R (jc (ja R) 1 R sub_Segment_1_0 ty_3) ?_
       refine AtH.take [0,1,2,3] hgd 13 R R R R (D':=#[Y,Y,Y,Y,Y,Y,Y,Y,Y,Y,Y,Y,Y,Y,N,N]) (by kernel_rfl) (fun _ _ _ _ h=>h) R (does_max (ja R) (ja R)) ?_
       refine AtH.take [0,1,2,3] hgd 14 R R R R (D':=#[Y,Y,Y,Y,Y,Y,Y,Y,Y,Y,Y,Y,Y,Y,Y,N]) (by kernel_rfl) (fun _ _ _ _ h=>h) R (jd (x:=(.tv (kInt .i64) (if ((rd zSegment all1 (rd (0:Int) list1 t36)).B.X)<((rd zSegment all1 (rd (0:Int) list1 t36)).A.X) then ((rd zSegment all1 (rd (0:Int) list1 t36)).B.X) else ((rd zSegment all1 (rd (0:Int) list1 t36)).A.X)))) (ja R)) ?_
       refine AtH.take [0,1,2,3] hgd 15 R R R R (D':=#[Y,Y,Y,Y,Y,Y,Y,Y,Y,Y,Y,Y,Y,Y,Y,Y]) (by kernel_rfl) (fun _ _ _ _ h=>h) R (jd (x:=(.tv (kInt .i64) (if ((rd zSegment all1 (rd (0:Int) list1 t36)).A.X)<((rd zSegment all1 (rd (0:Int) list1 t36)).B.X) then ((rd zSegment all1 (rd (0:Int) list1 t36)).B.X) else ((rd zSegment all1 (rd (0:Int) list1 t36)).A.X)))) (ja R)) ?_
       refine AtH.done (by kernel_rfl) ?_
       refine At.vh ?_
       refine At.w [2,3,1] R [(0,(.tv (kSlice kSegment) all1)),(1,(.tv (kSlice (kInt .i64)) list1)),(2,(.eq (.map (some g1)))),(6,(.eq v60)),(7,(.tv (kInt .i64) (if ((rd zSegment all1 (rd (0:Int) list1 t36)).B.X)<((rd zSegment all1 (rd (0:Int) list1 t36)).A.X) then ((rd zSegment all1 (rd (0:Int) list1 t36)).B.X) else ((rd zSegment all1 (rd (0:Int) list1 t36)).A.X)))),(8,(.tv (kInt .i64) (if ((rd zSegment all1 (rd (0:Int) list1 t36)).A.X)<((rd zSegment all1 (rd (0:Int) list1 t36)).B.X) then ((rd zSegment all1 (rd (0:Int) list1 t36)).B.X) else ((rd zSegment all1 (rd (0:Int) list1 t36)).A.X)))),(11,(.eq (.pointer (some ⟨g13,0,none⟩)))),(26,(.tv (kSlice (kInt .i64)) list1)),(27,(.tv (kInt .i64) (list1.length:Int))),(28,(.tv (kInt .i64) t36))] ⟨R,R,R,R,R,R,R,R,R,R,trivial⟩ (At.r ⟨(if ((rd zSegment all1 (rd (0:Int) list1 t36)).B.X)<((rd zSegment all1 (rd (0:Int) list1 t36)).A.X) then ((rd zSegment all1 (rd (0:Int) list1 t36)).B.X) else ((rd zSegment all1 (rd (0:Int) list1 t36)).A.X)),(if ((rd zSegment all1 (rd (0:Int) list1 t36)).A.X)<((rd zSegment all1 (rd (0:Int) list1 t36)).B.X) then ((rd zSegment all1 (rd (0:Int) list1 t36)).B.X) else ((rd zSegment all1 (rd (0:Int) list1 t36)).A.X)),hF,R,R⟩)
      ·replace hF:=W.ite_f hb58 hF
       refine At.skip (At.vh ?_)
       refine At.w [2,3,1] R [(0,(.tv (kSlice kSegment) all1)),(1,(.tv (kSlice (kInt .i64)) list1)),(2,(.eq (.map (some g1)))),(6,(.eq v60)),(7,(.tv (kInt .i64) low11)),(8,(.tv (kInt .i64) high11)),(11,(.eq (.pointer (some ⟨g13,0,none⟩)))),(26,(.tv (kSlice (kInt .i64)) list1)),(27,(.tv (kInt .i64) (list1.length:Int))),(28,(.tv (kInt .i64) t36))] ⟨R,R,R,R,R,R,R,R,R,R,trivial⟩ (At.r ⟨low11,high11,hF,R,R⟩)
     ·rintro _ _ ⟨low12,high12,hF,rfl,rfl⟩
      unfold vo.c7 at hF
      refine At.draw mixed [0,1,2] R [[],[],[]] (fun φ w hgd=>?_)
      refine AtH.take [0,1,2] hgd 0 R R R R (D':=#[Y,N,N,N,N,N,N,N,N,N,N,N,N,N,N,N,N,N]) (by kernel_rfl) (fun _ _ _ _ h=>h) R (jb (x:=(.tv (kInt .i64) low12)) (ja R)) ?_
      refine AtH.take [0,1,2] hgd 1 R R R R (D':=#[Y,Y,N,N,N,N,N,N,N,N,N,N,N,N,N,N,N,N]) (by kernel_rfl) (fun _ _ _ _ h=>h) R (je (ja R) fa_39_0) ?_
      refine AtH.take [0,1,2] hgd 2 R R R R (D':=#[Y,Y,Y,N,N,N,N,N,N,N,N,N,N,N,N,N,N,N]) (by kernel_rfl) (fun _ _ _ _ h=>h) R (je (ja R) fa_37_0) ?_
      refine AtH.take [0,1,2] hgd 3 R R R R (D':=#[Y,Y,Y,Y,N,N,N,N,N,N,N,N,N,N,N,N,N,N]) (by kernel_rfl) (fun _ _ _ _ h=>h) R (jc (ja R) 2 R sub_Segment_0_0 ty_3) ?_
      refine AtH.take [0,1,2] hgd 4 R R R R (D':=#[Y,Y,Y,Y,Y,N,N,N,N,N,N,N,N,N,N,N,N,N]) (by kernel_rfl) (fun _ _ _ _ h=>h) R (je (ja R) fa_39_1) ?_
      refine AtH.take [0,1,2] hgd 5 R R R R (D':=#[Y,Y,Y,Y,Y,Y,N,N,N,N,N,N,N,N,N,N,N,N]) (by kernel_rfl) (fun _ _ _ _ h=>h) R (je (ja R) fa_37_0) ?_
      refine AtH.take [0,1,2] hgd 6 R R R R (D':=#[Y,Y,Y,Y,Y,Y,Y,N,N,N,N,N,N,N,N,N,N,N]) (by kernel_rfl) (fun _ _ _ _ h=>h) R (jc (ja R) 2 R sub_Segment_1_0 ty_3) ?_
      refine AtH.take [0,1,2] hgd 7 R R R R (D':=#[Y,Y,Y,Y,Y,Y,Y,Y,N,N,N,N,N,N,N,N,N,N]) (by kernel_rfl) (fun _ _ _ _ h=>h) R (does_mins (n:=low12) (ns:=[(rd zSegment all1 (rd (0:Int) list1 t36)).A.X,(rd zSegment all1 (rd (0:Int) list1 t36)).B.X]) (jf (ja R) (jf (ja R) (jf (ja R) jg)))) ?_
      refine AtH.take [0,1,2] hgd 8 R R R R (D':=#[Y,Y,Y,Y,Y,Y,Y,Y,Y,N,N,N,N,N,N,N,N,N]) (by kernel_rfl) (fun _ _ _ _ h=>h) R (jb (x:=(.tv (kInt .i64) high12)) (ja R)) ?_
      refine AtH.take [0,1,2] hgd 9 R R R R (D':=#[Y,Y,Y,Y,Y,Y,Y,Y,Y,Y,N,N,N,N,N,N,N,N]) (by kernel_rfl) (fun _ _ _ _ h=>h) R (je (ja R) fa_39_0) ?_
      refine AtH.take [0,1,2] hgd 10 R R R R (D':=#[Y,Y,Y,Y,Y,Y,Y,Y,Y,Y,Y,N,N,N,N,N,N,N]) (by kernel_rfl) (fun _ _ _ _ h=>h) R (je (ja R) fa_37_0) ?_
      refine AtH.take [0,1,2] hgd 11 R R R R (D':=#[Y,Y,Y,Y,Y,Y,Y,Y,Y,Y,Y,Y,N,N,N,N,N,N]) (by kernel_rfl) (fun _ _ _ _ h=>h) R (jc (ja R) 2 R sub_Segment_0_0 ty_3) ?_
      refine AtH.take [0,1,2] hgd 12 R R R R (D':=#[Y,Y,Y,Y,Y,Y,Y,Y,Y,Y,Y,Y,Y,N,N,N,N,N]) (by kernel_rfl) (fun _ _ _ _ h=>h) R (je (ja R) fa_39_1) ?_
      refine AtH.take [0,1,2] hgd 13 R R R R (D':=#[Y,Y,Y,Y,Y,Y,Y,Y,Y,Y,Y,Y,Y,Y,N,N,N,N]) (by kernel_rfl) (fun _ _ _ _ h=>h) R (je (ja R) fa_37_0) ?_
      refine AtH.take [0,1,2] hgd 14 R R R R (D':=#[Y,Y,Y,Y,Y,Y,Y,Y,Y,Y,Y,Y,Y,Y,Y,N,N,N]) (by kernel_rfl) (fun _ _ _ _ h=>h) R (jc (ja R) 2 R sub_Segment_1_0 ty_3) ?_
      refine AtH.take [0,1,2] hgd 15 R R R R (D':=#[Y,Y,Y,Y,Y,Y,Y,Y,Y,Y,Y,Y,Y,Y,Y,Y,N,N]) (by kernel_rfl) (fun _ _ _ _ h=>h) R (does_maxs (n:=high12) (ns:=[(rd zSegment all1 (rd (0:Int) list1 t36)).A.X,(rd zSegment all1 (rd (0:Int) list1 t36)).B.X]) (jf (ja R) (jf (ja R) (jf (ja R) jg)))) ?_
      refine AtH.take [0,1,2] hgd 16 R R R R (D':=#[Y,Y,Y,Y,Y,Y,Y,Y,Y,Y,Y,Y,Y,Y,Y,Y,Y,N]) (by kernel_rfl) (fun _ _ _ _ h=>h) R (jd (x:=(.tv (kInt .i64) (iMin [low12,(rd zSegment all1 (rd (0:Int) list1 t36)).A.X,(rd zSegment all1 (rd (0:Int) list1 t36)).B.X]))) (ja R)) ?_
      refine AtH.take [0,1,2] hgd 17 R R R R (D':=#[Y,Y,Y,Y,Y,Y,Y,Y,Y,Y,Y,Y,Y,Y,Y,Y,Y,Y]) (by kernel_rfl) (fun _ _ _ _ h=>h) R (jd (x:=(.tv (kInt .i64) (iMax [high12,(rd zSegment all1 (rd (0:Int) list1 t36)).A.X,(rd zSegment all1 (rd (0:Int) list1 t36)).B.X]))) (ja R)) ?_
      refine AtH.done (by kernel_rfl) ?_
      refine At.n ?_
      refine At.vh (At.region (At.d R R R R (jk (ja R) (ji _ _) vc) ?_))
      refine At.d R R R R (jb (x:=(.tv (kInt .i64) (w64 (t36+(1:Int))))) (ja R)) ?_
      refine At.done (At.vh ?_)
      refine At.w [0,1] R [(0,(.tv (kSlice kSegment) all1)),(1,(.tv (kSlice (kInt .i64)) list1)),(2,(.eq (.map (some g1)))),(6,(.eq v60)),(7,(.tv (kInt .i64) (iMin [low12,(rd zSegment all1 (rd (0:Int) list1 t36)).A.X,(rd zSegment all1 (rd (0:Int) list1 t36)).B.X]))),(8,(.tv (kInt .i64) (iMax [high12,(rd zSegment all1 (rd (0:Int) list1 t36)).A.X,(rd zSegment all1 (rd (0:Int) list1 t36)).B.X]))),(26,(.tv (kSlice (kInt .i64)) list1)),(27,(.tv (kInt .i64) (list1.length:Int))),(28,(.tv (kInt .i64) (w64 (t36+(1:Int)))))] ⟨R,R,R,R,R,R,R,R,R,trivial⟩ (At.r ⟨(x55++([(rd zSegment all1 (rd (0:Int) list1 t36))]:List Segment)),v60,(iMin [low12,(rd zSegment all1 (rd (0:Int) list1 t36)).A.X,(rd zSegment all1 (rd (0:Int) list1 t36)).B.X]),(iMax [high12,(rd zSegment all1 (rd (0:Int) list1 t36)).A.X,(rd zSegment all1 (rd (0:Int) list1 t36)).B.X]),(w64 (t36+(1:Int))),hF,R,R⟩)
    ·replace hF:=W.ite_f hb56 hF
     refine At.exit ?_
     refine At.x (At.x ?_)
     refine At.h ?_
     refine At.vh ?_
     refine At.w [0,1] R [(0,(.tv (kSlice kSegment) all1)),(1,(.tv (kSlice (kInt .i64)) list1)),(2,(.eq (.map (some g1)))),(6,(.eq v58)),(7,(.tv (kInt .i64) low11)),(8,(.tv (kInt .i64) high11))] ⟨R,R,R,R,R,R,trivial⟩ (At.r ⟨x55,v58,low11,high11,hF,R,R⟩)
  ·rintro _ _ ⟨x4,v8,low6,high6,hF,rfl,rfl⟩
   unfold vo.c1 at hF
   refine At.cut (fun rs L=>∃ _:Unit,vo.c2 (vo.Fn n) all1 list1 found1 low6 high6 Q∧rs=[.map g1 (kPair (kInt .i64) (kInt .i64)) (kInt .i64) found1]∧L=mkL [(0,(.tv (kSlice kSegment) all1)),(1,(.tv (kSlice (kInt .i64)) list1)),(2,(.eq (.map (some g1)))),(7,(.tv (kInt .i64) low6)),(8,(.tv (kInt .i64) high6))]) ?_ ?_
   ·refine At.seq (At.region (At.d R R R R (jb (x:=(.eq v8)) (ja R)) ?_))
    refine At.d R R R R (does_len_row (ja R) 1 R Tryz.underlying27) ?_
    refine At.d R R R R (jk (ja R) (ji _ _) bin_leq) ?_
    refine At.done (At.vh ?_)
    refine At.cond (ja R) (fun hb46=>?_) (fun hb46=>?_)
    ·replace hF:=W.ite_t hb46 hF
     refine At.seq (At.region (At.d R R R R (jb (x:=(.eq v8)) (ja R)) ?_))
     refine At.freezes 1 [6,74,78] R ⟨R,R,R,trivial⟩ ?_
     replace hF:=W.vm hF
     refine At.f R (jo R R (jq R en_70 (jf (ja R) jg)) [] R (sweep_All.ok hF)) ?_
     rintro _ _ ⟨_,_,⟨r13,v51,hF,rfl,rfl⟩,rfl,rfl⟩
     refine At.d R R R R (jb (x:=(.tup2 (.eq v51) (.tv (kInt .i64) r13.2))) (ja R)) ?_
     refine At.d R R R R (does_extract20 (ja R)) ?_
     refine At.d R R R R (does_extract21 (ja R)) ?_
     refine At.d R R R R (jd (x:=(.eq v51)) (ja R)) ?_
     refine At.d R R R R (jd (x:=(.tv (kInt .i64) r13.2)) (ja R)) ?_
     refine At.done (At.vh ?_)
     refine At.cut (fun rs L=>∃ (x49:(List ((Int×Int)×Int))),vo.c6 x49 Q∧rs=[.map g1 (kPair (kInt .i64) (kInt .i64)) (kInt .i64) x49]∧L=mkL []) ?_ ?_
     ·refine At.seq (At.region (At.d R R R R (jb (x:=(.eq v51)) (ja R)) ?_))
      refine At.d R R R R (does_len_row (ja R) 0 R Tryz.underlying121) ?_
      refine At.d R R R R (jb (x:=(.tv (kInt .i64) (0:Int))) (ji _ _)) ?_
      refine At.done (At.vh (At.block ?_))
      obtain ⟨n4,hF⟩:=hF
      refine At.w [1,0] R [(1,(.tv (kSlice (kInt .i64)) list1)),(2,(.eq (.map (some g1)))),(82,(.eq v51)),(83,(.tv (kInt .i64) (r13.1.length:Int))),(84,(.tv (kInt .i64) (0:Int)))] ⟨R,R,R,R,R,trivial⟩ ?_
      refine At.loop (fun m rs L=>∃ (x52:(List ((Int×Int)×Int))) (t33:Int),W.iter2 (vo.l4 list1 r13 (vo.c6)) m x52 t33 Q∧rs=[.map g1 (kPair (kInt .i64) (kInt .i64)) (kInt .i64) x52,.row v51 125 kMeet r13.1]∧L=mkL [(1,(.tv (kSlice (kInt .i64)) list1)),(2,(.eq (.map (some g1)))),(82,(.eq v51)),(83,(.tv (kInt .i64) (r13.1.length:Int))),(84,(.tv (kInt .i64) t33))]) ?_ ?_ (m:=n4) ⟨found1,(0:Int),hF,R,R⟩
      ·rintro rs L ⟨_,_,hF,_,_⟩;exact hF
      ·rintro m4 _ _ ⟨x52,t33,hF,rfl,rfl⟩
       replace hF:=W.iter2_s hF
       unfold vo.l4 at hF
       refine At.seq (At.region (At.d R R R R (jk (ja R) (ja R) vd) ?_))
       refine At.done (At.vh (At.seq ?_))
       refine At.cond (ja R) (fun hb51=>?_) (fun hb51=>?_)
       ·replace hF:=W.ite_t hb51 hF
        refine At.skip (At.vh (At.seq (At.block (At.seq (At.region ?_)))))
        obtain ⟨hq93,hF⟩:=hF
        refine At.d R R R R (does_idx_row (ja R) 1 R (ja R) Tryz.underlying121 ty_125 hq93) ?_
        obtain ⟨hq94,hF⟩:=hF
        refine At.d R R R R (Jc (ja R) 1 R t33 0 R zMeet hq94 (Sub.self kMeet) ty_125) ?_
        refine At.f R (eff_alloc R R R tz_125) ?_
        rintro _ _ ⟨g10,rfl,rfl⟩
        refine At.f R (jx R R (ja R) 0 R (Sub.self kMeet) ty_125 (ja R)) ?_
        rintro _ _ ⟨rfl,rfl⟩
        refine At.done (At.vh ?_)
        refine At.draw mixed [0,1,2] R [[],[14],[]] (fun φ w hgd=>?_)
        obtain ⟨hq95,hF⟩:=hF
        obtain ⟨hq96,hF⟩:=hF
        refine AtH.take [0,1,2] hgd 0 R R R R (D':=#[Y,N,N,N,N,N,N,N,N,N,N,N,N,N,N]) (by kernel_rfl) (fun _ _ _ _ h=>h) R (jb (x:=(.eq (.map (some g1)))) (ja R)) ?_
        refine AtH.take [0,1,2] hgd 1 R R R R (D':=#[Y,Y,N,N,N,N,N,N,N,N,N,N,N,N,N]) (by kernel_rfl) (fun _ _ _ _ h=>h) R (jb (x:=(.tv (kSlice (kInt .i64)) list1)) (ja R)) ?_
        refine AtH.take [0,1,2] hgd 2 R R R R (D':=#[Y,Y,Y,N,N,N,N,N,N,N,N,N,N,N,N]) (by kernel_rfl) (fun _ _ _ _ h=>h) R (je (ja R) fa_125_0) ?_
        refine AtH.take [0,1,2] hgd 3 R R R R (D':=#[Y,Y,Y,Y,N,N,N,N,N,N,N,N,N,N,N]) (by kernel_rfl) (fun _ _ _ _ h=>h) R (jc (ja R) 0 R sub_Meet_0 ty_3) ?_
        refine AtH.take [0,1,2] hgd 4 R R R R (D':=#[Y,Y,Y,Y,Y,N,N,N,N,N,N,N,N,N,N]) (by kernel_rfl) (fun _ _ _ _ h=>h) R (vf (0:Int) (ja R) (ja R) Tryz.underlying89 ty_3 hq95) ?_
        refine AtH.take [0,1,2] hgd 5 R R R R (D':=#[Y,Y,Y,Y,Y,Y,N,N,N,N,N,N,N,N,N]) (by kernel_rfl) (fun _ _ _ _ h=>h) R (vq (K:=(kInt .i64)) (ja R) ty_3) ?_
        refine AtH.take [0,1,2] hgd 6 R R R R (D':=#[Y,Y,Y,Y,Y,Y,Y,N,N,N,N,N,N,N,N]) (by kernel_rfl) (fun _ _ _ _ h=>h) R (jb (x:=(.tv (kSlice (kInt .i64)) list1)) (ja R)) ?_
        refine AtH.take [0,1,2] hgd 7 R R R R (D':=#[Y,Y,Y,Y,Y,Y,Y,Y,N,N,N,N,N,N,N]) (by kernel_rfl) (fun _ _ _ _ h=>h) R (je (ja R) fa_125_1) ?_
        refine AtH.take [0,1,2] hgd 8 R R R R (D':=#[Y,Y,Y,Y,Y,Y,Y,Y,Y,N,N,N,N,N,N]) (by kernel_rfl) (fun _ _ _ _ h=>h) R (jc (ja R) 0 R sub_Meet_1 ty_3) ?_
        refine AtH.take [0,1,2] hgd 9 R R R R (D':=#[Y,Y,Y,Y,Y,Y,Y,Y,Y,Y,N,N,N,N,N]) (by kernel_rfl) (fun _ _ _ _ h=>h) R (vf (0:Int) (ja R) (ja R) Tryz.underlying89 ty_3 hq96) ?_
        refine AtH.take [0,1,2] hgd 10 R R R R (D':=#[Y,Y,Y,Y,Y,Y,Y,Y,Y,Y,Y,N,N,N,N]) (by kernel_rfl) (fun _ _ _ _ h=>h) R (vq (K:=(kInt .i64)) (ja R) ty_3) ?_
        refine AtH.take [0,1,2] hgd 11 R R R R (D':=#[Y,Y,Y,Y,Y,Y,Y,Y,Y,Y,Y,Y,N,N,N]) (by kernel_rfl) (fun _ _ _ _ h=>h) R (jz (jr (ja R) (jr (ja R) parts_nil)) zr_92 bd_92 R (fills_cons R sub_a92_0 (fills_cons R sub_a92_1 fills_nil))) ?_
        refine AtH.take [0,1,2] hgd 12 R R R R (D':=#[Y,Y,Y,Y,Y,Y,Y,Y,Y,Y,Y,Y,Y,N,N]) (by kernel_rfl) (fun _ _ _ _ h=>h) R (je (ja R) fa_125_2) ?_
        refine AtH.take [0,1,2] hgd 13 R R R R (D':=#[Y,Y,Y,Y,Y,Y,Y,Y,Y,Y,Y,Y,Y,Y,N]) (by kernel_rfl) (fun _ _ _ _ h=>h) R (jc (ja R) 0 R sub_Meet_2 ty_3) ?_
        refine AtH.all1 14 (by kernel_rfl) ?_
        refine AtH.eff0 [(0,0),(2,2)] R R R R R (eff_mapUpdate R R (ja R) 1 R mt_90 (ja R) (ja R)) (D':=#[Y,Y,Y,Y,Y,Y,Y,Y,Y,Y,Y,Y,Y,Y,Y]) (by kernel_rfl) (by kernel_rfl) ?_
        rintro _ _ ⟨rfl,rfl⟩
        refine AtH.done (by kernel_rfl) ?_
        refine At.n ?_
        refine At.vh (At.region (At.d R R R R (jk (ja R) (ji _ _) vc) ?_))
        refine At.d R R R R (jb (x:=(.tv (kInt .i64) (w64 (t33+(1:Int))))) (ja R)) ?_
        refine At.done (At.vh ?_)
        refine At.w [1,2] R [(1,(.tv (kSlice (kInt .i64)) list1)),(2,(.eq (.map (some g1)))),(82,(.eq v51)),(83,(.tv (kInt .i64) (r13.1.length:Int))),(84,(.tv (kInt .i64) (w64 (t33+(1:Int)))))] ⟨R,R,R,R,R,trivial⟩ (At.r ⟨(mset ((rd (0:Int) list1 ((rd zMeet r13.1 t33).A)),(rd (0:Int) list1 ((rd zMeet r13.1 t33).B))) ((rd zMeet r13.1 t33).Kind) x52),(w64 (t33+(1:Int))),hF,R,R⟩)
       ·replace hF:=W.ite_f hb51 hF
        refine At.exit ?_
        refine At.x (At.x ?_)
        refine At.h ?_
        refine At.vh ?_
        refine At.w [0] R [] trivial (At.r ⟨x52,hF,R,R⟩)
     ·rintro _ _ ⟨x49,hF,rfl,rfl⟩
      unfold vo.c6 at hF
      refine At.ret (At.vi ?_)
      exact At.ret_0 rfl  [0] rfl ⟨x49,hF,rfl,rfl⟩
    ·replace hF:=W.ite_f hb46 hF
     refine At.skip (At.vh ?_)
     refine At.w [0] R [(0,(.tv (kSlice kSegment) all1)),(1,(.tv (kSlice (kInt .i64)) list1)),(2,(.eq (.map (some g1)))),(7,(.tv (kInt .i64) low6)),(8,(.tv (kInt .i64) high6))] ⟨R,R,R,R,R,trivial⟩ (At.r ⟨(),hF,R,R⟩)
   ·rintro _ _ ⟨_,hF,rfl,rfl⟩
    unfold vo.c2 at hF
    refine At.seq (At.region (At.d R R R R (jd (x:=(.eq (.slice none 0 0))) (opd_eq _)) ?_))
    refine At.d R R R R (jd (x:=(.eq (.slice none 0 0))) (opd_eq _)) ?_
    refine At.done (At.vh (At.seq (At.region (At.d R R R R (jb (x:=(.tv (kInt .i64) low6)) (ja R)) ?_))))
    refine At.d R R R R (jb (x:=(.tv (kInt .i64) high6)) (ja R)) ?_
    refine At.d R R R R (jb (x:=(.tv (kInt .i64) low6)) (ja R)) ?_
    refine At.d R R R R (jk (ja R) (ja R) bin_sub) ?_
    refine At.d R R R R (jk (ja R) (ji _ _) (bin_quo (by decide))) ?_
    refine At.d R R R R (jk (ja R) (ja R) vc) ?_
    refine At.d R R R R (jd (x:=(.tv (kInt .i64) (w64 (low6+(w64 (Int.tdiv (w64 (high6-low6)) (2:Int))))))) (ja R)) ?_
    refine At.done (At.vh ?_)
    refine At.cut (fun rs L=>∃ (x17:(List Int)) (v26:Value) (x18:(List Int)) (v27:Value),vo.c3 (vo.Fn n) all1 list1 found1 x17 x18 Q∧rs=[.map g1 (kPair (kInt .i64) (kInt .i64)) (kInt .i64) found1,.row v26 3 (kInt .i64) x17,.row v27 3 (kInt .i64) x18]∧L=mkL [(0,(.tv (kSlice kSegment) all1)),(1,(.tv (kSlice (kInt .i64)) list1)),(2,(.eq (.map (some g1)))),(16,(.eq v26)),(17,(.eq v27))]) ?_ ?_
    ·refine At.seq (At.region (At.d R R R R (jb (x:=(.tv (kSlice (kInt .i64)) list1)) (ja R)) ?_))
     refine At.d R R R R (js (ja R) Tryz.underlying89) ?_
     refine At.d R R R R (jb (x:=(.tv (kInt .i64) (0:Int))) (ji _ _)) ?_
     refine At.done (At.vh (At.block ?_))
     refine At.nilrow 3 (kInt .i64) ?_
     refine At.nilrow 3 (kInt .i64) ?_
     obtain ⟨n3,hF⟩:=hF
     refine At.w [2,1,0] R [(0,(.tv (kSlice kSegment) all1)),(1,(.tv (kSlice (kInt .i64)) list1)),(2,(.eq (.map (some g1)))),(16,(.eq (.slice none 0 0))),(17,(.eq (.slice none 0 0))),(18,(.tv (kInt .i64) (w64 (low6+(w64 (Int.tdiv (w64 (high6-low6)) (2:Int))))))),(109,(.tv (kSlice (kInt .i64)) list1)),(110,(.tv (kInt .i64) (list1.length:Int))),(111,(.tv (kInt .i64) (0:Int)))] ⟨R,R,R,R,R,R,R,R,R,trivial⟩ ?_
     refine At.loop (fun m rs L=>∃ (x43:(List Int)) (v42:Value) (x44:(List Int)) (v43:Value) (t27:Int),W.iter3 (vo.l3 all1 list1 low6 high6 (vo.c3 (vo.Fn n) all1 list1 found1)) m x43 x44 t27 Q∧rs=[.map g1 (kPair (kInt .i64) (kInt .i64)) (kInt .i64) found1,.row v42 3 (kInt .i64) x43,.row v43 3 (kInt .i64) x44]∧L=mkL [(0,(.tv (kSlice kSegment) all1)),(1,(.tv (kSlice (kInt .i64)) list1)),(2,(.eq (.map (some g1)))),(16,(.eq v42)),(17,(.eq v43)),(18,(.tv (kInt .i64) (w64 (low6+(w64 (Int.tdiv (w64 (high6-low6)) (2:Int))))))),(109,(.tv (kSlice (kInt .i64)) list1)),(110,(.tv (kInt .i64) (list1.length:Int))),(111,(.tv (kInt .i64) t27))]) ?_ ?_ (m:=n3) ⟨([]:List Int),(.slice none 0 0),([]:List Int),(.slice none 0 0),(0:Int),hF,R,R⟩
     ·rintro rs L ⟨_,_,_,_,_,hF,_,_⟩;exact hF
     ·rintro m3 _ _ ⟨x43,v42,x44,v43,t27,hF,rfl,rfl⟩
      replace hF:=W.iter3_s hF
      unfold vo.l3 at hF
      refine At.seq (At.region (At.d R R R R (jk (ja R) (ja R) vd) ?_))
      refine At.done (At.vh (At.seq ?_))
      refine At.cond (ja R) (fun hb42=>?_) (fun hb42=>?_)
      ·replace hF:=W.ite_t hb42 hF
       refine At.skip (At.vh (At.seq (At.block (At.seq (At.region ?_)))))
       obtain ⟨hq70,hF⟩:=hF
       refine At.d R R R R (vf (0:Int) (ja R) (ja R) Tryz.underlying89 ty_3 hq70) ?_
       refine At.d R R R R (vq (K:=(kInt .i64)) (ja R) ty_3) ?_
       refine At.d R R R R (jd (x:=(.tv (kInt .i64) (rd (0:Int) list1 t27))) (ja R)) ?_
       refine At.done (At.vh ?_)
       refine At.cut (fun rs L=>∃ (x45:(List Int)) (v46:Value),vo.c5 all1 list1 low6 high6 x44 t27 (W.iter3 (vo.l3 all1 list1 low6 high6 (vo.c3 (vo.Fn n) all1 list1 found1)) m3) x45 Q∧rs=[.map g1 (kPair (kInt .i64) (kInt .i64)) (kInt .i64) found1,.row v46 3 (kInt .i64) x45,.row v43 3 (kInt .i64) x44]∧L=mkL [(0,(.tv (kSlice kSegment) all1)),(1,(.tv (kSlice (kInt .i64)) list1)),(2,(.eq (.map (some g1)))),(16,(.eq v46)),(17,(.eq v43)),(18,(.tv (kInt .i64) (w64 (low6+(w64 (Int.tdiv (w64 (high6-low6)) (2:Int))))))),(20,(.tv (kInt .i64) (rd (0:Int) list1 t27))),(109,(.tv (kSlice (kInt .i64)) list1)),(110,(.tv (kInt .i64) (list1.length:Int))),(111,(.tv (kInt .i64) t27))]) ?_ ?_
       ·refine At.seq ?_
        refine At.draw mixed [0,1,2] R [[],[],[]] (fun φ w hgd=>?_)
        obtain ⟨hq75,hF⟩:=hF
        refine AtH.take [0,1,2] hgd 0 R R R R (D':=#[Y,N,N,N,N,N,N,N,N,N,N,N,N,N,N]) (by kernel_rfl) (fun _ _ _ _ h=>h) R (jb (x:=(.tv (kSlice kSegment) all1)) (ja R)) ?_
        refine AtH.take [0,1,2] hgd 1 R R R R (D':=#[Y,Y,N,N,N,N,N,N,N,N,N,N,N,N,N]) (by kernel_rfl) (fun _ _ _ _ h=>h) R (jb (x:=(.tv (kInt .i64) (rd (0:Int) list1 t27))) (ja R)) ?_
        refine AtH.take [0,1,2] hgd 2 R R R R (D':=#[Y,Y,Y,N,N,N,N,N,N,N,N,N,N,N,N]) (by kernel_rfl) (fun _ _ _ _ h=>h) R (vf zSegment (ja R) (ja R) Tryz.underlying27 ty_39 hq75) ?_
        refine AtH.take [0,1,2] hgd 3 R R R R (D':=#[Y,Y,Y,Y,N,N,N,N,N,N,N,N,N,N,N]) (by kernel_rfl) (fun _ _ _ _ h=>h) R (Jd (K:=kSegment) (ja R) fa_39_0 Ja) ?_
        refine AtH.take [0,1,2] hgd 4 R R R R (D':=#[Y,Y,Y,Y,Y,N,N,N,N,N,N,N,N,N,N]) (by kernel_rfl) (fun _ _ _ _ h=>h) R (Jd (K:=kPoint) (ja R) fa_37_0 sub_Point_0) ?_
        refine AtH.take [0,1,2] hgd 5 R R R R (D':=#[Y,Y,Y,Y,Y,Y,N,N,N,N,N,N,N,N,N]) (by kernel_rfl) (fun _ _ _ _ h=>h) R (vq (K:=(kInt .i64)) (ja R) ty_3) ?_
        refine AtH.take [0,1,2] hgd 6 R R R R (D':=#[Y,Y,Y,Y,Y,Y,Y,N,N,N,N,N,N,N,N]) (by kernel_rfl) (fun _ _ _ _ h=>h) R (jb (x:=(.tv (kSlice kSegment) all1)) (ja R)) ?_
        refine AtH.take [0,1,2] hgd 7 R R R R (D':=#[Y,Y,Y,Y,Y,Y,Y,Y,N,N,N,N,N,N,N]) (by kernel_rfl) (fun _ _ _ _ h=>h) R (jb (x:=(.tv (kInt .i64) (rd (0:Int) list1 t27))) (ja R)) ?_
        refine AtH.take [0,1,2] hgd 8 R R R R (D':=#[Y,Y,Y,Y,Y,Y,Y,Y,Y,N,N,N,N,N,N]) (by kernel_rfl) (fun _ _ _ _ h=>h) R (vf zSegment (ja R) (ja R) Tryz.underlying27 ty_39 hq75) ?_
        refine AtH.take [0,1,2] hgd 9 R R R R (D':=#[Y,Y,Y,Y,Y,Y,Y,Y,Y,Y,N,N,N,N,N]) (by kernel_rfl) (fun _ _ _ _ h=>h) R (Jd (K:=kSegment) (ja R) fa_39_1 Jb) ?_
        refine AtH.take [0,1,2] hgd 10 R R R R (D':=#[Y,Y,Y,Y,Y,Y,Y,Y,Y,Y,Y,N,N,N,N]) (by kernel_rfl) (fun _ _ _ _ h=>h) R (Jd (K:=kPoint) (ja R) fa_37_0 sub_Point_0) ?_
        refine AtH.take [0,1,2] hgd 11 R R R R (D':=#[Y,Y,Y,Y,Y,Y,Y,Y,Y,Y,Y,Y,N,N,N]) (by kernel_rfl) (fun _ _ _ _ h=>h) R (vq (K:=(kInt .i64)) (ja R) ty_3) ?_
        refine AtH.take [0,1,2] hgd 12 R R R R (D':=#[Y,Y,Y,Y,Y,Y,Y,Y,Y,Y,Y,Y,Y,N,N]) (by kernel_rfl) (fun _ _ _ _ h=>h) R (does_min (ja R) (ja R)) ?_
        refine AtH.take [0,1,2] hgd 13 R R R R (D':=#[Y,Y,Y,Y,Y,Y,Y,Y,Y,Y,Y,Y,Y,Y,N]) (by kernel_rfl) (fun _ _ _ _ h=>h) R (jb (x:=(.tv (kInt .i64) (w64 (low6+(w64 (Int.tdiv (w64 (high6-low6)) (2:Int))))))) (ja R)) ?_
        refine AtH.take [0,1,2] hgd 14 R R R R (D':=#[Y,Y,Y,Y,Y,Y,Y,Y,Y,Y,Y,Y,Y,Y,Y]) (by kernel_rfl) (fun _ _ _ _ h=>h) R (jk (ja R) (ja R) bin_leq) ?_
        refine AtH.done (by kernel_rfl) ?_
        refine At.vh ?_
        refine At.cond (ja R) (fun hb45=>?_) (fun hb45=>?_)
        ·replace hF:=W.ite_t hb45 hF
         refine At.region (At.d R R R R (jb (x:=(.eq v42)) (ja R)) ?_)
         refine At.d R R R R (jb (x:=(.tv (kInt .i64) (rd (0:Int) list1 t27))) (ja R)) ?_
         refine At.f R (jy R R R (os:=[.tmp 131]) R sl_89 (xs:=([(rd (0:Int) list1 t27)]:List Int)) (jf (ja R) jg) R R) ?_
         rintro _ _ ⟨v49,rfl,rfl⟩
         obtain ⟨hq76,hF⟩:=hF
         refine At.f R (eff_append_row R R R 2 0 R R (ja R) (ja R) sl_89 hq76) ?_
         rintro _ _ ⟨v50,rfl,rfl⟩
         refine At.d R R R R (jd (x:=(.eq v50)) (ja R)) ?_
         refine At.done (At.vh ?_)
         refine At.w [1,2,3] R [(0,(.tv (kSlice kSegment) all1)),(1,(.tv (kSlice (kInt .i64)) list1)),(2,(.eq (.map (some g1)))),(16,(.eq v50)),(17,(.eq v43)),(18,(.tv (kInt .i64) (w64 (low6+(w64 (Int.tdiv (w64 (high6-low6)) (2:Int))))))),(20,(.tv (kInt .i64) (rd (0:Int) list1 t27))),(109,(.tv (kSlice (kInt .i64)) list1)),(110,(.tv (kInt .i64) (list1.length:Int))),(111,(.tv (kInt .i64) t27))] ⟨R,R,R,R,R,R,R,R,R,R,trivial⟩ (At.r ⟨(x43++([(rd (0:Int) list1 t27)]:List Int)),v50,hF,R,R⟩)
        ·replace hF:=W.ite_f hb45 hF
         refine At.skip (At.vh ?_)
         refine At.w [0,1,2] R [(0,(.tv (kSlice kSegment) all1)),(1,(.tv (kSlice (kInt .i64)) list1)),(2,(.eq (.map (some g1)))),(16,(.eq v42)),(17,(.eq v43)),(18,(.tv (kInt .i64) (w64 (low6+(w64 (Int.tdiv (w64 (high6-low6)) (2:Int))))))),(20,(.tv (kInt .i64) (rd (0:Int) list1 t27))),(109,(.tv (kSlice (kInt .i64)) list1)),(110,(.tv (kInt .i64) (list1.length:Int))),(111,(.tv (kInt .i64) t27))] ⟨R,R,R,R,R,R,R,R,R,R,trivial⟩ (At.r ⟨x43,v42,hF,R,R⟩)
       ·rintro _ _ ⟨x45,v46,hF,rfl,rfl⟩
        unfold vo.c5 at hF
        refine At.seq ?_
        refine At.draw mixed [0,1,2] R [[],[],[]] (fun φ w hgd=>?_)
        obtain ⟨hq73,hF⟩:=hF
        refine AtH.take [0,1,2] hgd 0 R R R R (D':=#[Y,N,N,N,N,N,N,N,N,N,N,N,N,N,N]) (by kernel_rfl) (fun _ _ _ _ h=>h) R (jb (x:=(.tv (kSlice kSegment) all1)) (ja R)) ?_
        refine AtH.take [0,1,2] hgd 1 R R R R (D':=#[Y,Y,N,N,N,N,N,N,N,N,N,N,N,N,N]) (by kernel_rfl) (fun _ _ _ _ h=>h) R (jb (x:=(.tv (kInt .i64) (rd (0:Int) list1 t27))) (ja R)) ?_
        refine AtH.take [0,1,2] hgd 2 R R R R (D':=#[Y,Y,Y,N,N,N,N,N,N,N,N,N,N,N,N]) (by kernel_rfl) (fun _ _ _ _ h=>h) R (vf zSegment (ja R) (ja R) Tryz.underlying27 ty_39 hq73) ?_
        refine AtH.take [0,1,2] hgd 3 R R R R (D':=#[Y,Y,Y,Y,N,N,N,N,N,N,N,N,N,N,N]) (by kernel_rfl) (fun _ _ _ _ h=>h) R (Jd (K:=kSegment) (ja R) fa_39_0 Ja) ?_
        refine AtH.take [0,1,2] hgd 4 R R R R (D':=#[Y,Y,Y,Y,Y,N,N,N,N,N,N,N,N,N,N]) (by kernel_rfl) (fun _ _ _ _ h=>h) R (Jd (K:=kPoint) (ja R) fa_37_0 sub_Point_0) ?_
        refine AtH.take [0,1,2] hgd 5 R R R R (D':=#[Y,Y,Y,Y,Y,Y,N,N,N,N,N,N,N,N,N]) (by kernel_rfl) (fun _ _ _ _ h=>h) R (vq (K:=(kInt .i64)) (ja R) ty_3) ?_
        refine AtH.take [0,1,2] hgd 6 R R R R (D':=#[Y,Y,Y,Y,Y,Y,Y,N,N,N,N,N,N,N,N]) (by kernel_rfl) (fun _ _ _ _ h=>h) R (jb (x:=(.tv (kSlice kSegment) all1)) (ja R)) ?_
        refine AtH.take [0,1,2] hgd 7 R R R R (D':=#[Y,Y,Y,Y,Y,Y,Y,Y,N,N,N,N,N,N,N]) (by kernel_rfl) (fun _ _ _ _ h=>h) R (jb (x:=(.tv (kInt .i64) (rd (0:Int) list1 t27))) (ja R)) ?_
        refine AtH.take [0,1,2] hgd 8 R R R R (D':=#[Y,Y,Y,Y,Y,Y,Y,Y,Y,N,N,N,N,N,N]) (by kernel_rfl) (fun _ _ _ _ h=>h) R (vf zSegment (ja R) (ja R) Tryz.underlying27 ty_39 hq73) ?_
        refine AtH.take [0,1,2] hgd 9 R R R R (D':=#[Y,Y,Y,Y,Y,Y,Y,Y,Y,Y,N,N,N,N,N]) (by kernel_rfl) (fun _ _ _ _ h=>h) R (Jd (K:=kSegment) (ja R) fa_39_1 Jb) ?_
        refine AtH.take [0,1,2] hgd 10 R R R R (D':=#[Y,Y,Y,Y,Y,Y,Y,Y,Y,Y,Y,N,N,N,N]) (by kernel_rfl) (fun _ _ _ _ h=>h) R (Jd (K:=kPoint) (ja R) fa_37_0 sub_Point_0) ?_
        refine AtH.take [0,1,2] hgd 11 R R R R (D':=#[Y,Y,Y,Y,Y,Y,Y,Y,Y,Y,Y,Y,N,N,N]) (by kernel_rfl) (fun _ _ _ _ h=>h) R (vq (K:=(kInt .i64)) (ja R) ty_3) ?_
        refine AtH.take [0,1,2] hgd 12 R R R R (D':=#[Y,Y,Y,Y,Y,Y,Y,Y,Y,Y,Y,Y,Y,N,N]) (by kernel_rfl) (fun _ _ _ _ h=>h) R (does_max (ja R) (ja R)) ?_
        refine AtH.take [0,1,2] hgd 13 R R R R (D':=#[Y,Y,Y,Y,Y,Y,Y,Y,Y,Y,Y,Y,Y,Y,N]) (by kernel_rfl) (fun _ _ _ _ h=>h) R (jb (x:=(.tv (kInt .i64) (w64 (low6+(w64 (Int.tdiv (w64 (high6-low6)) (2:Int))))))) (ja R)) ?_
        refine AtH.take [0,1,2] hgd 14 R R R R (D':=#[Y,Y,Y,Y,Y,Y,Y,Y,Y,Y,Y,Y,Y,Y,Y]) (by kernel_rfl) (fun _ _ _ _ h=>h) R (jk (ja R) (ja R) bin_gtr) ?_
        refine AtH.done (by kernel_rfl) ?_
        refine At.vh ?_
        refine At.cond (ja R) (fun hb44=>?_) (fun hb44=>?_)
        ·replace hF:=W.ite_t hb44 hF
         refine At.region (At.d R R R R (jb (x:=(.eq v43)) (ja R)) ?_)
         refine At.d R R R R (jb (x:=(.tv (kInt .i64) (rd (0:Int) list1 t27))) (ja R)) ?_
         refine At.f R (jy R R R (os:=[.tmp 150]) R sl_89 (xs:=([(rd (0:Int) list1 t27)]:List Int)) (jf (ja R) jg) R R) ?_
         rintro _ _ ⟨v47,rfl,rfl⟩
         obtain ⟨hq74,hF⟩:=hF
         refine At.f R (eff_append_row R R R 3 0 R R (ja R) (ja R) sl_89 hq74) ?_
         rintro _ _ ⟨v48,rfl,rfl⟩
         refine At.d R R R R (jd (x:=(.eq v48)) (ja R)) ?_
         refine At.done ?_
         refine At.n ?_
         refine At.vh (At.region (At.d R R R R (jk (ja R) (ji _ _) vc) ?_))
         refine At.d R R R R (jb (x:=(.tv (kInt .i64) (w64 (t27+(1:Int))))) (ja R)) ?_
         refine At.done (At.vh ?_)
         refine At.w [1,2,3] R [(0,(.tv (kSlice kSegment) all1)),(1,(.tv (kSlice (kInt .i64)) list1)),(2,(.eq (.map (some g1)))),(16,(.eq v46)),(17,(.eq v48)),(18,(.tv (kInt .i64) (w64 (low6+(w64 (Int.tdiv (w64 (high6-low6)) (2:Int))))))),(109,(.tv (kSlice (kInt .i64)) list1)),(110,(.tv (kInt .i64) (list1.length:Int))),(111,(.tv (kInt .i64) (w64 (t27+(1:Int)))))] ⟨R,R,R,R,R,R,R,R,R,trivial⟩ (At.r ⟨x45,v46,(x44++([(rd (0:Int) list1 t27)]:List Int)),v48,(w64 (t27+(1:Int))),hF,R,R⟩)
        ·replace hF:=W.ite_f hb44 hF
         refine At.skip ?_
         refine At.n ?_
         refine At.vh (At.region (At.d R R R R (jk (ja R) (ji _ _) vc) ?_))
         refine At.d R R R R (jb (x:=(.tv (kInt .i64) (w64 (t27+(1:Int))))) (ja R)) ?_
         refine At.done (At.vh ?_)
         refine At.w [0,1,2] R [(0,(.tv (kSlice kSegment) all1)),(1,(.tv (kSlice (kInt .i64)) list1)),(2,(.eq (.map (some g1)))),(16,(.eq v46)),(17,(.eq v43)),(18,(.tv (kInt .i64) (w64 (low6+(w64 (Int.tdiv (w64 (high6-low6)) (2:Int))))))),(109,(.tv (kSlice (kInt .i64)) list1)),(110,(.tv (kInt .i64) (list1.length:Int))),(111,(.tv (kInt .i64) (w64 (t27+(1:Int)))))] ⟨R,R,R,R,R,R,R,R,R,trivial⟩ (At.r ⟨x45,v46,x44,v43,(w64 (t27+(1:Int))),hF,R,R⟩)
      ·replace hF:=W.ite_f hb42 hF
       refine At.exit ?_
       refine At.x (At.x ?_)
       refine At.h ?_
       refine At.vh ?_
       refine At.w [0,1,2] R [(0,(.tv (kSlice kSegment) all1)),(1,(.tv (kSlice (kInt .i64)) list1)),(2,(.eq (.map (some g1)))),(16,(.eq v42)),(17,(.eq v43))] ⟨R,R,R,R,R,trivial⟩ (At.r ⟨x43,v42,x44,v43,hF,R,R⟩)
    ·rintro _ _ ⟨x17,v26,x18,v27,hF,rfl,rfl⟩
     unfold vo.c3 at hF
     refine At.seq (At.seq (At.region (At.d R R R R (jb (x:=(.eq v26)) (ja R)) ?_)))
     refine At.d R R R R (does_len_row (ja R) 1 R Tryz.underlying89) ?_
     refine At.d R R R R (jb (x:=(.tv (kSlice (kInt .i64)) list1)) (ja R)) ?_
     refine At.d R R R R (js (ja R) Tryz.underlying89) ?_
     refine At.d R R R R (jk (ja R) (ja R) vd) ?_
     refine At.d R R R R (jb (x:=(.tv kBool (decide ((x17.length:Int)<(list1.length:Int))))) (ja R)) ?_
     refine At.vj R R R R (ju R) R (fun hg1=>(jb (x:=(.eq v27)) (ja R))) ?_
     refine At.vj R R R R (ju R) R (fun hg2=>(does_len_row (jh R hg2) 2 R Tryz.underlying89)) ?_
     refine At.vj R R R R (ju R) R (fun hg3=>(jb (x:=(.tv (kSlice (kInt .i64)) list1)) (ja R))) ?_
     refine At.vj R R R R (ju R) R (fun hg4=>(js (jh R hg4) Tryz.underlying89)) ?_
     refine At.vj R R R R (ju R) R (fun hg5=>(jk (jh R hg5) (jh R hg5) vd)) ?_
     refine At.d R R R R (jm (ja R) (ja R) (jl _) ve) ?_
     refine At.done (At.vh ?_)
     refine At.cond (ja R) (fun hb14=>?_) (fun hb14=>?_)
     ·replace hF:=W.ite_t hb14 hF
      refine At.seq (At.region (At.d R R R R (jb (x:=(.tv (kSlice kSegment) all1)) (ja R)) ?_))
      refine At.d R R R R (jb (x:=(.eq v26)) (ja R)) ?_
      refine At.d R R R R (jb (x:=(.eq (.map (some g1)))) (ja R)) ?_
      refine At.freezes 1 [16,154,167] R ⟨R,R,R,trivial⟩ ?_
      replace hF:=W.vm hF
      refine At.f R (jo R R (jq R en_37 (jf (ja R) (jf (ja R) (jf (ja R) jg)))) [0] R (ih hF)) ?_
      rintro _ _ ⟨_,_,⟨r2,hF,rfl,rfl⟩,rfl,rfl⟩
      refine At.done (At.vh (At.seq (At.region (At.d R R R R (jb (x:=(.tv (kSlice kSegment) all1)) (ja R)) ?_))))
      refine At.d R R R R (jb (x:=(.eq v27)) (ja R)) ?_
      refine At.d R R R R (jb (x:=(.eq (.map (some g1)))) (ja R)) ?_
      refine At.freeze2 3 17 171 R R R ?_
      replace hF:=W.vm hF
      refine At.f R (jo R R (jq R en_37 (jf (ja R) (jf (ja R) (jf (ja R) jg)))) [0] R (ih hF)) ?_
      rintro _ _ ⟨_,_,⟨r3,hF,rfl,rfl⟩,rfl,rfl⟩
      refine At.done (At.vh (At.ret (At.vi ?_)))
      exact At.ret_0 rfl  [0] rfl ⟨r3,hF,rfl,rfl⟩
     ·replace hF:=W.ite_f hb14 hF
      refine At.skip (At.vh (At.seq (At.region (At.d R R R R (jb (x:=(.tv (kSlice (kInt .i64)) list1)) (ja R)) ?_))))
      refine At.d R R R R (js (ja R) Tryz.underlying89) ?_
      refine At.d R R R R (jb (x:=(.tv (kInt .i64) (0:Int))) (ji _ _)) ?_
      refine At.done (At.vh (At.block ?_))
      obtain ⟨n2,hF⟩:=hF
      refine At.w [0] R [(0,(.tv (kSlice kSegment) all1)),(1,(.tv (kSlice (kInt .i64)) list1)),(2,(.eq (.map (some g1)))),(174,(.tv (kSlice (kInt .i64)) list1)),(175,(.tv (kInt .i64) (list1.length:Int))),(176,(.tv (kInt .i64) (0:Int)))] ⟨R,R,R,R,R,R,trivial⟩ ?_
      refine At.loop (fun m rs L=>∃ (x29:(List ((Int×Int)×Int))) (t18:Int),W.iter2 (vo.l1 all1 list1) m x29 t18 Q∧rs=[.map g1 (kPair (kInt .i64) (kInt .i64)) (kInt .i64) x29]∧L=mkL [(0,(.tv (kSlice kSegment) all1)),(1,(.tv (kSlice (kInt .i64)) list1)),(2,(.eq (.map (some g1)))),(174,(.tv (kSlice (kInt .i64)) list1)),(175,(.tv (kInt .i64) (list1.length:Int))),(176,(.tv (kInt .i64) t18))]) ?_ ?_ (m:=n2) ⟨found1,(0:Int),hF,R,R⟩
      ·rintro rs L ⟨_,_,hF,_,_⟩;exact hF
      ·rintro m1 _ _ ⟨x29,t18,hF,rfl,rfl⟩
       replace hF:=W.iter2_s hF
       unfold vo.l1 at hF
       refine At.seq (At.region (At.d R R R R (jk (ja R) (ja R) vd) ?_))
       refine At.done (At.vh (At.seq ?_))
       refine At.cond (ja R) (fun hb25=>?_) (fun hb25=>?_)
       ·replace hF:=W.ite_t hb25 hF
        refine At.skip (At.vh ?_)
        refine At.cut (fun rs L=>∃ (x33:(List ((Int×Int)×Int))),vo.c4 t18 (W.iter2 (vo.l1 all1 list1) m1) x33 Q∧rs=[.map g1 (kPair (kInt .i64) (kInt .i64)) (kInt .i64) x33]∧L=mkL [(0,(.tv (kSlice kSegment) all1)),(1,(.tv (kSlice (kInt .i64)) list1)),(2,(.eq (.map (some g1)))),(174,(.tv (kSlice (kInt .i64)) list1)),(175,(.tv (kInt .i64) (list1.length:Int))),(176,(.tv (kInt .i64) t18))]) ?_ ?_
        ·refine At.block (At.seq (At.region (At.d R R R R (jb (x:=(.tv (kInt .i64) t18)) (ja R)) ?_)))
         obtain ⟨hq49,hF⟩:=hF
         refine At.d R R R R (vf (0:Int) (ja R) (ja R) Tryz.underlying89 ty_3 hq49) ?_
         refine At.d R R R R (vq (K:=(kInt .i64)) (ja R) ty_3) ?_
         refine At.d R R R R (jd (x:=(.tv (kInt .i64) t18)) (ja R)) ?_
         refine At.d R R R R (jd (x:=(.tv (kInt .i64) (rd (0:Int) list1 t18))) (ja R)) ?_
         refine At.done (At.vh (At.seq (At.region (At.d R R R R (jb (x:=(.tv (kSlice (kInt .i64)) list1)) (ja R)) ?_))))
         refine At.d R R R R (jb (x:=(.tv (kInt .i64) t18)) (ja R)) ?_
         refine At.d R R R R (jk (ja R) (ji _ _) vc) ?_
         obtain ⟨hq50,hF⟩:=hF
         refine At.d R R R R (does_cut_l (ja R) (ja R) Tryz.underlying89 ty_3 hq50) ?_
         refine At.d R R R R (js (ja R) Tryz.underlying89) ?_
         refine At.d R R R R (jb (x:=(.tv (kInt .i64) (0:Int))) (ji _ _)) ?_
         refine At.done (At.vh (At.block ?_))
         obtain ⟨n1,hF⟩:=hF
         refine At.w [0] R [(0,(.tv (kSlice kSegment) all1)),(1,(.tv (kSlice (kInt .i64)) list1)),(2,(.eq (.map (some g1)))),(22,(.tv (kInt .i64) (rd (0:Int) list1 t18))),(174,(.tv (kSlice (kInt .i64)) list1)),(175,(.tv (kInt .i64) (list1.length:Int))),(176,(.tv (kInt .i64) t18)),(184,(.tv (kSlice (kInt .i64)) (cut_l list1 (w64 (t18+(1:Int)))))),(185,(.tv (kInt .i64) ((cut_l list1 (w64 (t18+(1:Int)))).length:Int))),(186,(.tv (kInt .i64) (0:Int)))] ⟨R,R,R,R,R,R,R,R,R,R,trivial⟩ ?_
         refine At.loop (fun m rs L=>∃ (x36:(List ((Int×Int)×Int))) (t24:Int),W.iter2 (vo.l2 all1 list1 t18 (vo.c4 t18 (W.iter2 (vo.l1 all1 list1) m1))) m x36 t24 Q∧rs=[.map g1 (kPair (kInt .i64) (kInt .i64)) (kInt .i64) x36]∧L=mkL [(0,(.tv (kSlice kSegment) all1)),(1,(.tv (kSlice (kInt .i64)) list1)),(2,(.eq (.map (some g1)))),(22,(.tv (kInt .i64) (rd (0:Int) list1 t18))),(174,(.tv (kSlice (kInt .i64)) list1)),(175,(.tv (kInt .i64) (list1.length:Int))),(176,(.tv (kInt .i64) t18)),(184,(.tv (kSlice (kInt .i64)) (cut_l list1 (w64 (t18+(1:Int)))))),(185,(.tv (kInt .i64) ((cut_l list1 (w64 (t18+(1:Int)))).length:Int))),(186,(.tv (kInt .i64) t24))]) ?_ ?_ (m:=n1) ⟨x29,(0:Int),hF,R,R⟩
         ·rintro rs L ⟨_,_,hF,_,_⟩;exact hF
         ·rintro m2 _ _ ⟨x36,t24,hF,rfl,rfl⟩
          replace hF:=W.iter2_s hF
          unfold vo.l2 at hF
          refine At.seq (At.region (At.d R R R R (jk (ja R) (ja R) vd) ?_))
          refine At.done (At.vh (At.seq ?_))
          refine At.cond (ja R) (fun hb34=>?_) (fun hb34=>?_)
          ·replace hF:=W.ite_t hb34 hF
           refine At.skip (At.vh (At.seq (At.block (At.seq (At.region ?_)))))
           obtain ⟨hq57,hF⟩:=hF
           refine At.d R R R R (vf (0:Int) (ja R) (ja R) Tryz.underlying89 ty_3 hq57) ?_
           refine At.d R R R R (vq (K:=(kInt .i64)) (ja R) ty_3) ?_
           refine At.d R R R R (jd (x:=(.tv (kInt .i64) (rd (0:Int) (cut_l list1 (w64 (t18+(1:Int)))) t24))) (ja R)) ?_
           refine At.done (At.vh (At.seq ?_))
           refine At.draw mixed [0] R [[]] (fun φ w hgd=>?_)
           obtain ⟨hq58,hF⟩:=hF
           obtain ⟨hq59,hF⟩:=hF
           replace hF:=W.vm hF
           refine AtH.take [0] hgd 0 R R R R (D':=#[Y,N,N,N,N,N,N,N,N,N]) (by kernel_rfl) (fun _ _ _ _ h=>h) R (jb (x:=(.tv (kSlice kSegment) all1)) (ja R)) ?_
           refine AtH.take [0] hgd 1 R R R R (D':=#[Y,Y,N,N,N,N,N,N,N,N]) (by kernel_rfl) (fun _ _ _ _ h=>h) R (jb (x:=(.tv (kInt .i64) (rd (0:Int) list1 t18))) (ja R)) ?_
           refine AtH.take [0] hgd 2 R R R R (D':=#[Y,Y,Y,N,N,N,N,N,N,N]) (by kernel_rfl) (fun _ _ _ _ h=>h) R (vf zSegment (ja R) (ja R) Tryz.underlying27 ty_39 hq58) ?_
           refine AtH.take [0] hgd 3 R R R R (D':=#[Y,Y,Y,Y,N,N,N,N,N,N]) (by kernel_rfl) (fun _ _ _ _ h=>h) R (vq (K:=kSegment) (ja R) ty_39) ?_
           refine AtH.take [0] hgd 4 R R R R (D':=#[Y,Y,Y,Y,Y,N,N,N,N,N]) (by kernel_rfl) (fun _ _ _ _ h=>h) R (jb (x:=(.tv (kSlice kSegment) all1)) (ja R)) ?_
           refine AtH.take [0] hgd 5 R R R R (D':=#[Y,Y,Y,Y,Y,Y,N,N,N,N]) (by kernel_rfl) (fun _ _ _ _ h=>h) R (jb (x:=(.tv (kInt .i64) (rd (0:Int) (cut_l list1 (w64 (t18+(1:Int)))) t24))) (ja R)) ?_
           refine AtH.take [0] hgd 6 R R R R (D':=#[Y,Y,Y,Y,Y,Y,Y,N,N,N]) (by kernel_rfl) (fun _ _ _ _ h=>h) R (vf zSegment (ja R) (ja R) Tryz.underlying27 ty_39 hq59) ?_
           refine AtH.take [0] hgd 7 R R R R (D':=#[Y,Y,Y,Y,Y,Y,Y,Y,N,N]) (by kernel_rfl) (fun _ _ _ _ h=>h) R (vq (K:=kSegment) (ja R) ty_39) ?_
           refine AtH.all1 8 (by kernel_rfl) ?_
           refine AtH.f [(0,0)] R R R R R R (jn R R jp (jq R en_23 (jf (ja R) (jf (ja R) jg))) (geom_Meets.ok hF) (by rintro _ _ ⟨r,_,rfl,_⟩;exact flat_int)) (D':=#[Y,Y,Y,Y,Y,Y,Y,Y,Y,N]) (by kernel_rfl) (by kernel_rfl) ?_
           rintro _ _ ⟨_,_,⟨r12,hF,rfl,rfl⟩,rfl,rfl⟩
           refine ⟨_,.inr ⟨R,flat_int⟩,?_⟩
           refine AtH.take [0] hgd 9 R R R R (D':=#[Y,Y,Y,Y,Y,Y,Y,Y,Y,Y]) (by kernel_rfl) (fun _ _ _ _ h=>h) R (jd (x:=(.tv (kInt .i64) r12)) (ja R)) ?_
           refine AtH.done (by kernel_rfl) ?_
           refine At.vh (At.seq (At.region (At.d R R R R (jb (x:=(.tv (kInt .i64) r12)) (ja R)) ?_)))
           refine At.d R R R R (jk (ja R) (ji _ _) bin_neq) ?_
           refine At.done (At.vh ?_)
           refine At.cond (ja R) (fun hb35=>?_) (fun hb35=>?_)
           ·replace hF:=W.ite_t hb35 hF
            refine At.region (At.d R R R R (jb (x:=(.eq (.map (some g1)))) (ja R)) ?_)
            refine At.d R R R R (jb (x:=(.tv (kInt .i64) (rd (0:Int) list1 t18))) (ja R)) ?_
            refine At.d R R R R (jb (x:=(.tv (kInt .i64) (rd (0:Int) (cut_l list1 (w64 (t18+(1:Int)))) t24))) (ja R)) ?_
            refine At.d R R R R (jz (jr (ja R) (jr (ja R) parts_nil)) zr_92 bd_92 R (fills_cons R sub_a92_0 (fills_cons R sub_a92_1 fills_nil))) ?_
            refine At.d R R R R (jb (x:=(.tv (kInt .i64) r12)) (ja R)) ?_
            refine At.f R (eff_mapUpdate R R (ja R) 0 R mt_90 (ja R) (ja R)) ?_
            rintro _ _ ⟨rfl,rfl⟩
            refine At.done ?_
            refine At.n ?_
            refine At.vh (At.region (At.d R R R R (jk (ja R) (ji _ _) vc) ?_))
            refine At.d R R R R (jb (x:=(.tv (kInt .i64) (w64 (t24+(1:Int))))) (ja R)) ?_
            refine At.done (At.vh ?_)
            refine At.w [0] R [(0,(.tv (kSlice kSegment) all1)),(1,(.tv (kSlice (kInt .i64)) list1)),(2,(.eq (.map (some g1)))),(22,(.tv (kInt .i64) (rd (0:Int) list1 t18))),(174,(.tv (kSlice (kInt .i64)) list1)),(175,(.tv (kInt .i64) (list1.length:Int))),(176,(.tv (kInt .i64) t18)),(184,(.tv (kSlice (kInt .i64)) (cut_l list1 (w64 (t18+(1:Int)))))),(185,(.tv (kInt .i64) ((cut_l list1 (w64 (t18+(1:Int)))).length:Int))),(186,(.tv (kInt .i64) (w64 (t24+(1:Int)))))] ⟨R,R,R,R,R,R,R,R,R,R,trivial⟩ (At.r ⟨(mset ((rd (0:Int) list1 t18),(rd (0:Int) (cut_l list1 (w64 (t18+(1:Int)))) t24)) r12 x36),(w64 (t24+(1:Int))),hF,R,R⟩)
           ·replace hF:=W.ite_f hb35 hF
            refine At.skip ?_
            refine At.n ?_
            refine At.vh (At.region (At.d R R R R (jk (ja R) (ji _ _) vc) ?_))
            refine At.d R R R R (jb (x:=(.tv (kInt .i64) (w64 (t24+(1:Int))))) (ja R)) ?_
            refine At.done (At.vh ?_)
            refine At.w [0] R [(0,(.tv (kSlice kSegment) all1)),(1,(.tv (kSlice (kInt .i64)) list1)),(2,(.eq (.map (some g1)))),(22,(.tv (kInt .i64) (rd (0:Int) list1 t18))),(174,(.tv (kSlice (kInt .i64)) list1)),(175,(.tv (kInt .i64) (list1.length:Int))),(176,(.tv (kInt .i64) t18)),(184,(.tv (kSlice (kInt .i64)) (cut_l list1 (w64 (t18+(1:Int)))))),(185,(.tv (kInt .i64) ((cut_l list1 (w64 (t18+(1:Int)))).length:Int))),(186,(.tv (kInt .i64) (w64 (t24+(1:Int)))))] ⟨R,R,R,R,R,R,R,R,R,R,trivial⟩ (At.r ⟨x36,(w64 (t24+(1:Int))),hF,R,R⟩)
          ·replace hF:=W.ite_f hb34 hF
           refine At.exit ?_
           refine At.x (At.x ?_)
           refine At.h ?_
           refine At.n ?_
           refine At.vh ?_
           refine At.w [0] R [(0,(.tv (kSlice kSegment) all1)),(1,(.tv (kSlice (kInt .i64)) list1)),(2,(.eq (.map (some g1)))),(174,(.tv (kSlice (kInt .i64)) list1)),(175,(.tv (kInt .i64) (list1.length:Int))),(176,(.tv (kInt .i64) t18))] ⟨R,R,R,R,R,R,trivial⟩ (At.r ⟨x36,hF,R,R⟩)
        ·rintro _ _ ⟨x33,hF,rfl,rfl⟩
         unfold vo.c4 at hF
         refine At.region (At.d R R R R (jk (ja R) (ji _ _) vc) ?_)
         refine At.d R R R R (jb (x:=(.tv (kInt .i64) (w64 (t18+(1:Int))))) (ja R)) ?_
         refine At.done (At.vh ?_)
         refine At.w [0] R [(0,(.tv (kSlice kSegment) all1)),(1,(.tv (kSlice (kInt .i64)) list1)),(2,(.eq (.map (some g1)))),(174,(.tv (kSlice (kInt .i64)) list1)),(175,(.tv (kInt .i64) (list1.length:Int))),(176,(.tv (kInt .i64) (w64 (t18+(1:Int)))))] ⟨R,R,R,R,R,R,trivial⟩ (At.r ⟨x33,(w64 (t18+(1:Int))),hF,R,R⟩)
       ·replace hF:=W.ite_f hb25 hF
        refine At.exit ?_
        refine At.x (At.x ?_)
        refine At.h ?_
        refine At.norm ?_
        exact At.ret_0 rfl  [0] rfl ⟨x29,hF,rfl,rfl⟩
theorem vo.ok {all1:(List Segment)} {list1:(List Int)} {found1:(List ((Int×Int)×Int))} {g1:Nat} {Q:(List ((Int×Int)×Int))→Prop} (hF:vo.F all1 list1 found1 Q):Con Tryz.prog 37 [.tv (kSlice kSegment) all1,.tv (kSlice (kInt .i64)) list1,.eq (.map (some g1))] [.map g1 (kPair (kInt .i64) (kInt .i64)) (kInt .i64) found1] (fun ta rs'=>∃ (r:(List ((Int×Int)×Int))),Q r∧ta=.eq (.tuple #[])∧rs'=[.map g1 (kPair (kInt .i64) (kInt .i64)) (kInt .i64) r]):=by
 obtain ⟨n,hF⟩:=hF
 exact vo.okn n hF
def stringslite_IndexByte.F (s1:BA) (c1:Int):W Int:=W.ret (sIndexByte s1 c1)
theorem stringslite_IndexByte.ok {s1:BA} {c1:Int} {Q:Int→Prop} (hF:stringslite_IndexByte.F s1 c1 Q):Con Tryz.prog 179 [.tv kStr s1,.tv (kInt .u8) c1] [] (fun ta rs'=>∃ (r:Int),Q r∧ta=.tv (kInt .i64) r∧rs'=[]):=by
 refine Con.i Tryz.func179 Tryz.ntmps179 R R (fun C=>?_)
 unfold stringslite_IndexByte.F at hF
 refine At.seq (At.region (At.d R R R R (jd (x:=(.tv (kInt .i64) (0:Int))) (ji _ _)) ?_))
 refine At.done (At.vh (At.seq (At.region (At.d R R R R (jb (x:=(.tv kStr s1)) (ja R)) ?_))))
 refine At.d R R R R (jb (x:=(.tv (kInt .u8) c1)) (ja R)) ?_
 refine At.d R R R R (does_indexByte ex_187 (ja R) (ja R)) ?_
 refine At.d R R R R (jd (x:=(.tv (kInt .i64) (sIndexByte s1 c1))) (ja R)) ?_
 refine At.done (At.vh (At.ret ?_))
 exact At.j rfl (rv_tmp rfl) [] rfl ⟨(sIndexByte s1 c1),hF,rfl,rfl⟩
def strings_IndexByte.F (s1:BA) (c1:Int):W Int:=W.bind (stringslite_IndexByte.F s1 c1) (fun r1=>W.ret r1)
theorem strings_IndexByte.ok {s1:BA} {c1:Int} {Q:Int→Prop} (hF:strings_IndexByte.F s1 c1 Q):Con Tryz.prog 155 [.tv kStr s1,.tv (kInt .u8) c1] [] (fun ta rs'=>∃ (r:Int),Q r∧ta=.tv (kInt .i64) r∧rs'=[]):=by
 refine Con.i Tryz.func155 Tryz.ntmps155 R R (fun C=>?_)
 unfold strings_IndexByte.F at hF
 refine At.seq (At.region (At.d R R R R (jd (x:=(.tv (kInt .i64) (0:Int))) (ji _ _)) ?_))
 refine At.done (At.vh (At.seq (At.region (At.d R R R R (jb (x:=(.tv kStr s1)) (ja R)) ?_))))
 refine At.d R R R R (jb (x:=(.tv (kInt .u8) c1)) (ja R)) ?_
 replace hF:=W.vm hF
 refine At.f R (jn R R jp (jq R en_179 (jf (ja R) (jf (ja R) jg))) (stringslite_IndexByte.ok hF) (by rintro _ _ ⟨r,_,rfl,_⟩;exact flat_int)) ?_
 rintro _ _ ⟨_,_,⟨r1,hF,rfl,rfl⟩,rfl,rfl⟩
 refine At.d R R R R (jd (x:=(.tv (kInt .i64) r1)) (ja R)) ?_
 refine At.done (At.vh (At.ret ?_))
 exact At.j rfl (rv_tmp rfl) [] rfl ⟨r1,hF,rfl,rfl⟩
def lexer_classes.c1 (x4:(List Int)):W (List Int):=W.req (0≤(35:Int)∧(35:Int)<(256:Int)) (W.req (0≤(95:Int)∧(95:Int)<(256:Int)) (W.req (0≤(34:Int)∧(34:Int)<(256:Int)) (W.ret (aset_176 (aset_176 (aset_176 x4 (35:Int) (2:Int)) (95:Int) (5:Int)) (34:Int) (7:Int)))))
def lexer_classes.c2 (x7:(List Int)) (t10:Int) (A1:(List Int)→Int→W (List Int)) (t11:Bool):W (List Int):=W.ite t11 (W.req (0≤t10∧t10<(256:Int)) (A1 (aset_176 x7 t10 (3:Int)) (w64 (t10+(1:Int))))) (W.ite ((decide ((48:Int)≤(IntKind.wrap .u8 t10)))&&(decide ((IntKind.wrap .u8 t10)≤(57:Int)))) (W.req (0≤t10∧t10<(256:Int)) (A1 (aset_176 x7 t10 (4:Int)) (w64 (t10+(1:Int))))) (W.bind (strings_IndexByte.F (⟨#[32,9,10]⟩:BA) (IntKind.wrap .u8 t10)) (fun r9=>W.ite (decide ((0:Int)≤r9)) (W.req (0≤t10∧t10<(256:Int)) (A1 (aset_176 x7 t10 (1:Int)) (w64 (t10+(1:Int))))) (W.bind (strings_IndexByte.F (⟨#[59,44,46,58,40,41,123,125,91,93,61,60,62,47,45]⟩:BA) (IntKind.wrap .u8 t10)) (fun r10=>W.ite (decide ((0:Int)≤r10)) (W.req (0≤t10∧t10<(256:Int)) (A1 (aset_176 x7 t10 (6:Int)) (w64 (t10+(1:Int))))) (A1 x7 (w64 (t10+(1:Int)))))))))
def lexer_classes.l1 (K1:(List Int)→W (List Int)) (A1:(List Int)→Int→W (List Int)) (x7:(List Int)) (t10:Int):W (List Int):=W.ite (decide (t10<(256:Int))) (W.ite ((decide ((97:Int)≤(IntKind.wrap .u8 t10)))&&(decide ((IntKind.wrap .u8 t10)≤(122:Int)))) ((lexer_classes.c2 x7 t10 A1) ((decide ((97:Int)≤(IntKind.wrap .u8 t10)))&&(decide ((IntKind.wrap .u8 t10)≤(122:Int))))) ((lexer_classes.c2 x7 t10 A1) ((decide ((65:Int)≤(IntKind.wrap .u8 t10)))&&(decide ((IntKind.wrap .u8 t10)≤(90:Int)))))) (K1 x7)
def lexer_classes.F:W (List Int):=W.ex fun n=>W.iter2 (lexer_classes.l1 (lexer_classes.c1)) n (List.replicate 256 (0:Int)) (0:Int)
theorem lexer_classes.ok {Q:(List Int)→Prop} (hF:lexer_classes.F Q):Con Tryz.prog 130 [] [] (fun ta rs'=>∃ (r:(List Int)),Q r∧ta=.tv (kArr 256 (kInt .u8)) r∧rs'=[]):=by
 refine Con.i Tryz.func130 Tryz.ntmps130 R R (fun C=>?_)
 unfold lexer_classes.F at hF
 refine At.seq (At.region (At.f R (eff_alloc R R R tz_176) ?_))
 rintro _ _ ⟨g1,rfl,rfl⟩
 refine At.done (At.vh (At.seq (At.region (At.f R (eff_alloc R R R tz_176) ?_))))
 rintro _ _ ⟨g2,rfl,rfl⟩
 refine At.done (At.vh ?_)
 refine At.cut (fun rs L=>∃ (x4:(List Int)),lexer_classes.c1 x4 Q∧rs=[.box g1 176 (kArr 256 (kInt .u8)) (List.replicate 256 (0:Int)),.box g2 176 (kArr 256 (kInt .u8)) x4]∧L=mkL [(0,(.eq (.pointer (some ⟨g1,0,none⟩)))),(1,(.eq (.pointer (some ⟨g2,0,none⟩))))]) ?_ ?_
 ·refine At.seq (At.region (At.d R R R R (jb (x:=(.tv (kInt .i64) (0:Int))) (ji _ _)) ?_))
  refine At.done (At.vh (At.block ?_))
  obtain ⟨n1,hF⟩:=hF
  refine At.w [1,0] R [(0,(.eq (.pointer (some ⟨g1,0,none⟩)))),(1,(.eq (.pointer (some ⟨g2,0,none⟩)))),(4,(.tv (kInt .i64) (0:Int)))] ⟨R,R,R,trivial⟩ ?_
  refine At.loop (fun m rs L=>∃ (x7:(List Int)) (t10:Int),W.iter2 (lexer_classes.l1 (lexer_classes.c1)) m x7 t10 Q∧rs=[.box g1 176 (kArr 256 (kInt .u8)) (List.replicate 256 (0:Int)),.box g2 176 (kArr 256 (kInt .u8)) x7]∧L=mkL [(0,(.eq (.pointer (some ⟨g1,0,none⟩)))),(1,(.eq (.pointer (some ⟨g2,0,none⟩)))),(4,(.tv (kInt .i64) t10))]) ?_ ?_ (m:=n1) ⟨(List.replicate 256 (0:Int)),(0:Int),hF,R,R⟩
  ·rintro rs L ⟨_,_,hF,_,_⟩;exact hF
  ·rintro m1 _ _ ⟨x7,t10,hF,rfl,rfl⟩
   replace hF:=W.iter2_s hF
   unfold lexer_classes.l1 at hF
   refine At.seq (At.region (At.d R R R R (jk (ja R) (ji _ _) vd) ?_))
   refine At.done (At.vh (At.seq ?_))
   refine At.cond (ja R) (fun hb25=>?_) (fun hb25=>?_)
   ·replace hF:=W.ite_t hb25 hF
    refine At.skip (At.vh (At.seq (At.block (At.seq (At.region (At.d R R R R (jb (x:=(.tv (kInt .i64) t10)) (ja R)) ?_))))))
    refine At.d R R R R (jd (x:=(.tv (kInt .i64) t10)) (ja R)) ?_
    refine At.done (At.vh (At.seq (At.region (At.d R R R R (jb (x:=(.tv (kInt .i64) t10)) (ja R)) ?_))))
    refine At.d R R R R (does_conv_int (ja R) (by kernel_rfl) Tryz.underlying5) ?_
    refine At.d R R R R (jd (x:=(.tv (kInt .u8) (IntKind.wrap .u8 t10))) (ja R)) ?_
    refine At.done (At.vh (At.block ?_))
    refine At.cut (fun rs L=>∃ (t11:Bool),lexer_classes.c2 x7 t10 (W.iter2 (lexer_classes.l1 (lexer_classes.c1)) m1) t11 Q∧rs=[.box g1 176 (kArr 256 (kInt .u8)) (List.replicate 256 (0:Int)),.box g2 176 (kArr 256 (kInt .u8)) x7]∧L=mkL [(0,(.eq (.pointer (some ⟨g1,0,none⟩)))),(1,(.eq (.pointer (some ⟨g2,0,none⟩)))),(2,(.tv (kInt .i64) t10)),(3,(.tv (kInt .u8) (IntKind.wrap .u8 t10))),(4,(.tv (kInt .i64) t10)),(9,(.tv kBool t11))]) ?_ ?_
    ·refine At.seq (At.region (At.d R R R R (jb (x:=(.tv (kInt .u8) (IntKind.wrap .u8 t10))) (ja R)) ?_))
     refine At.d R R R R (jk (ji _ _) (ja R) bin_leq) ?_
     refine At.d R R R R (jb (x:=(.tv kBool (decide ((97:Int)≤(IntKind.wrap .u8 t10))))) (ja R)) ?_
     refine At.vj R R R R (ju R) R (fun hg31=>(jb (x:=(.tv (kInt .u8) (IntKind.wrap .u8 t10))) (ja R))) ?_
     refine At.vj R R R R (ju R) R (fun hg32=>(jk (jh R hg32) (ji _ _) bin_leq)) ?_
     refine At.d R R R R (jm (ja R) (ja R) (jl _) ve) ?_
     refine At.d R R R R (jd (x:=(.tv kBool ((decide ((97:Int)≤(IntKind.wrap .u8 t10)))&&(decide ((IntKind.wrap .u8 t10)≤(122:Int)))))) (ja R)) ?_
     refine At.done (At.vh ?_)
     refine At.cond (ja R) (fun hb31=>?_) (fun hb31=>?_)
     ·replace hF:=W.ite_t hb31 hF
      refine At.skip (At.vh ?_)
      refine At.w [0,1] R [(0,(.eq (.pointer (some ⟨g1,0,none⟩)))),(1,(.eq (.pointer (some ⟨g2,0,none⟩)))),(2,(.tv (kInt .i64) t10)),(3,(.tv (kInt .u8) (IntKind.wrap .u8 t10))),(4,(.tv (kInt .i64) t10)),(9,(.tv kBool ((decide ((97:Int)≤(IntKind.wrap .u8 t10)))&&(decide ((IntKind.wrap .u8 t10)≤(122:Int))))))] ⟨R,R,R,R,R,R,trivial⟩ (At.r ⟨((decide ((97:Int)≤(IntKind.wrap .u8 t10)))&&(decide ((IntKind.wrap .u8 t10)≤(122:Int)))),hF,R,R⟩)
     ·replace hF:=W.ite_f hb31 hF
      refine At.region (At.d R R R R (jb (x:=(.tv (kInt .u8) (IntKind.wrap .u8 t10))) (ja R)) ?_)
      refine At.d R R R R (jk (ji _ _) (ja R) bin_leq) ?_
      refine At.d R R R R (jb (x:=(.tv kBool (decide ((65:Int)≤(IntKind.wrap .u8 t10))))) (ja R)) ?_
      refine At.vj R R R R (ju R) R (fun hg33=>(jb (x:=(.tv (kInt .u8) (IntKind.wrap .u8 t10))) (ja R))) ?_
      refine At.vj R R R R (ju R) R (fun hg34=>(jk (jh R hg34) (ji _ _) bin_leq)) ?_
      refine At.d R R R R (jm (ja R) (ja R) (jl _) ve) ?_
      refine At.d R R R R (jd (x:=(.tv kBool ((decide ((65:Int)≤(IntKind.wrap .u8 t10)))&&(decide ((IntKind.wrap .u8 t10)≤(90:Int)))))) (ja R)) ?_
      refine At.done (At.vh ?_)
      refine At.w [0,1] R [(0,(.eq (.pointer (some ⟨g1,0,none⟩)))),(1,(.eq (.pointer (some ⟨g2,0,none⟩)))),(2,(.tv (kInt .i64) t10)),(3,(.tv (kInt .u8) (IntKind.wrap .u8 t10))),(4,(.tv (kInt .i64) t10)),(9,(.tv kBool ((decide ((65:Int)≤(IntKind.wrap .u8 t10)))&&(decide ((IntKind.wrap .u8 t10)≤(90:Int))))))] ⟨R,R,R,R,R,R,trivial⟩ (At.r ⟨((decide ((65:Int)≤(IntKind.wrap .u8 t10)))&&(decide ((IntKind.wrap .u8 t10)≤(90:Int)))),hF,R,R⟩)
    ·rintro _ _ ⟨t11,hF,rfl,rfl⟩
     unfold lexer_classes.c2 at hF
     refine At.cond (ja R) (fun hb27=>?_) (fun hb27=>?_)
     ·replace hF:=W.ite_t hb27 hF
      refine At.region (At.d R R R R (jb (x:=(.tv (kInt .i64) t10)) (ja R)) ?_)
      obtain ⟨hq20,hF⟩:=hF
      refine At.d R R R R (does_aidxv_box (n:=256) (sz:=1) (ja R) (ja R) Tryz.underlying176 ty_5.size hq20) ?_
      refine At.f R (jx R R (ja R) 1 R (Sub.trans (Sub.self (kArr 256 (kInt .u8))) (subv_176 hq20)) ty_5 (ji _ _)) ?_
      rintro _ _ ⟨rfl,rfl⟩
      refine At.done ?_
      refine At.n ?_
      refine At.n ?_
      refine At.vh (At.region (At.d R R R R (jk (ja R) (ji _ _) vc) ?_))
      refine At.d R R R R (jb (x:=(.tv (kInt .i64) (w64 (t10+(1:Int))))) (ja R)) ?_
      refine At.done (At.vh ?_)
      refine At.w [0,1] R [(0,(.eq (.pointer (some ⟨g1,0,none⟩)))),(1,(.eq (.pointer (some ⟨g2,0,none⟩)))),(4,(.tv (kInt .i64) (w64 (t10+(1:Int)))))] ⟨R,R,R,trivial⟩ (At.r ⟨(aset_176 x7 t10 (3:Int)),(w64 (t10+(1:Int))),hF,R,R⟩)
     ·replace hF:=W.ite_f hb27 hF
      refine At.seq (At.region (At.d R R R R (jb (x:=(.tv (kInt .u8) (IntKind.wrap .u8 t10))) (ja R)) ?_))
      refine At.d R R R R (jk (ji _ _) (ja R) bin_leq) ?_
      refine At.d R R R R (jb (x:=(.tv kBool (decide ((48:Int)≤(IntKind.wrap .u8 t10))))) (ja R)) ?_
      refine At.vj R R R R (ju R) R (fun hg29=>(jb (x:=(.tv (kInt .u8) (IntKind.wrap .u8 t10))) (ja R))) ?_
      refine At.vj R R R R (ju R) R (fun hg30=>(jk (jh R hg30) (ji _ _) bin_leq)) ?_
      refine At.d R R R R (jm (ja R) (ja R) (jl _) ve) ?_
      refine At.d R R R R (jd (x:=(.tv kBool ((decide ((48:Int)≤(IntKind.wrap .u8 t10)))&&(decide ((IntKind.wrap .u8 t10)≤(57:Int)))))) (ja R)) ?_
      refine At.done (At.vh ?_)
      refine At.cond (ja R) (fun hb28=>?_) (fun hb28=>?_)
      ·replace hF:=W.ite_t hb28 hF
       refine At.region (At.d R R R R (jb (x:=(.tv (kInt .i64) t10)) (ja R)) ?_)
       obtain ⟨hq21,hF⟩:=hF
       refine At.d R R R R (does_aidxv_box (n:=256) (sz:=1) (ja R) (ja R) Tryz.underlying176 ty_5.size hq21) ?_
       refine At.f R (jx R R (ja R) 1 R (Sub.trans (Sub.self (kArr 256 (kInt .u8))) (subv_176 hq21)) ty_5 (ji _ _)) ?_
       rintro _ _ ⟨rfl,rfl⟩
       refine At.done ?_
       refine At.n ?_
       refine At.n ?_
       refine At.vh (At.region (At.d R R R R (jk (ja R) (ji _ _) vc) ?_))
       refine At.d R R R R (jb (x:=(.tv (kInt .i64) (w64 (t10+(1:Int))))) (ja R)) ?_
       refine At.done (At.vh ?_)
       refine At.w [0,1] R [(0,(.eq (.pointer (some ⟨g1,0,none⟩)))),(1,(.eq (.pointer (some ⟨g2,0,none⟩)))),(4,(.tv (kInt .i64) (w64 (t10+(1:Int)))))] ⟨R,R,R,trivial⟩ (At.r ⟨(aset_176 x7 t10 (4:Int)),(w64 (t10+(1:Int))),hF,R,R⟩)
      ·replace hF:=W.ite_f hb28 hF
       refine At.seq (At.region (At.d R R R R (jb (x:=(.tv (kInt .u8) (IntKind.wrap .u8 t10))) (ja R)) ?_))
       replace hF:=W.vm hF
       refine At.f R (jn R R jp (jq R en_155 (jf (vg _) (jf (ja R) jg))) (strings_IndexByte.ok hF) (by rintro _ _ ⟨r,_,rfl,_⟩;exact flat_int)) ?_
       rintro _ _ ⟨_,_,⟨r9,hF,rfl,rfl⟩,rfl,rfl⟩
       refine At.d R R R R (jk (ja R) (ji _ _) bin_geq) ?_
       refine At.d R R R R (jd (x:=(.tv kBool (decide ((0:Int)≤r9)))) (ja R)) ?_
       refine At.done (At.vh ?_)
       refine At.cond (ja R) (fun hb29=>?_) (fun hb29=>?_)
       ·replace hF:=W.ite_t hb29 hF
        refine At.region (At.d R R R R (jb (x:=(.tv (kInt .i64) t10)) (ja R)) ?_)
        obtain ⟨hq22,hF⟩:=hF
        refine At.d R R R R (does_aidxv_box (n:=256) (sz:=1) (ja R) (ja R) Tryz.underlying176 ty_5.size hq22) ?_
        refine At.f R (jx R R (ja R) 1 R (Sub.trans (Sub.self (kArr 256 (kInt .u8))) (subv_176 hq22)) ty_5 (ji _ _)) ?_
        rintro _ _ ⟨rfl,rfl⟩
        refine At.done ?_
        refine At.n ?_
        refine At.n ?_
        refine At.vh (At.region (At.d R R R R (jk (ja R) (ji _ _) vc) ?_))
        refine At.d R R R R (jb (x:=(.tv (kInt .i64) (w64 (t10+(1:Int))))) (ja R)) ?_
        refine At.done (At.vh ?_)
        refine At.w [0,1] R [(0,(.eq (.pointer (some ⟨g1,0,none⟩)))),(1,(.eq (.pointer (some ⟨g2,0,none⟩)))),(4,(.tv (kInt .i64) (w64 (t10+(1:Int)))))] ⟨R,R,R,trivial⟩ (At.r ⟨(aset_176 x7 t10 (1:Int)),(w64 (t10+(1:Int))),hF,R,R⟩)
       ·replace hF:=W.ite_f hb29 hF
        refine At.seq (At.region (At.d R R R R (jb (x:=(.tv (kInt .u8) (IntKind.wrap .u8 t10))) (ja R)) ?_))
        replace hF:=W.vm hF
        refine At.f R (jn R R jp (jq R en_155 (jf (vg _) (jf (ja R) jg))) (strings_IndexByte.ok hF) (by rintro _ _ ⟨r,_,rfl,_⟩;exact flat_int)) ?_
        rintro _ _ ⟨_,_,⟨r10,hF,rfl,rfl⟩,rfl,rfl⟩
        refine At.d R R R R (jk (ja R) (ji _ _) bin_geq) ?_
        refine At.d R R R R (jd (x:=(.tv kBool (decide ((0:Int)≤r10)))) (ja R)) ?_
        refine At.done (At.vh ?_)
        refine At.cond (ja R) (fun hb30=>?_) (fun hb30=>?_)
        ·replace hF:=W.ite_t hb30 hF
         refine At.region (At.d R R R R (jb (x:=(.tv (kInt .i64) t10)) (ja R)) ?_)
         obtain ⟨hq23,hF⟩:=hF
         refine At.d R R R R (does_aidxv_box (n:=256) (sz:=1) (ja R) (ja R) Tryz.underlying176 ty_5.size hq23) ?_
         refine At.f R (jx R R (ja R) 1 R (Sub.trans (Sub.self (kArr 256 (kInt .u8))) (subv_176 hq23)) ty_5 (ji _ _)) ?_
         rintro _ _ ⟨rfl,rfl⟩
         refine At.done ?_
         refine At.n ?_
         refine At.n ?_
         refine At.vh (At.region (At.d R R R R (jk (ja R) (ji _ _) vc) ?_))
         refine At.d R R R R (jb (x:=(.tv (kInt .i64) (w64 (t10+(1:Int))))) (ja R)) ?_
         refine At.done (At.vh ?_)
         refine At.w [0,1] R [(0,(.eq (.pointer (some ⟨g1,0,none⟩)))),(1,(.eq (.pointer (some ⟨g2,0,none⟩)))),(4,(.tv (kInt .i64) (w64 (t10+(1:Int)))))] ⟨R,R,R,trivial⟩ (At.r ⟨(aset_176 x7 t10 (6:Int)),(w64 (t10+(1:Int))),hF,R,R⟩)
        ·replace hF:=W.ite_f hb30 hF
         refine At.skip ?_
         refine At.n ?_
         refine At.n ?_
         refine At.vh (At.region (At.d R R R R (jk (ja R) (ji _ _) vc) ?_))
         refine At.d R R R R (jb (x:=(.tv (kInt .i64) (w64 (t10+(1:Int))))) (ja R)) ?_
         refine At.done (At.vh ?_)
         refine At.w [0,1] R [(0,(.eq (.pointer (some ⟨g1,0,none⟩)))),(1,(.eq (.pointer (some ⟨g2,0,none⟩)))),(4,(.tv (kInt .i64) (w64 (t10+(1:Int)))))] ⟨R,R,R,trivial⟩ (At.r ⟨x7,(w64 (t10+(1:Int))),hF,R,R⟩)
   ·replace hF:=W.ite_f hb25 hF
    refine At.exit ?_
    refine At.x (At.x ?_)
    refine At.h ?_
    refine At.vh ?_
    refine At.w [0,1] R [(0,(.eq (.pointer (some ⟨g1,0,none⟩)))),(1,(.eq (.pointer (some ⟨g2,0,none⟩))))] ⟨R,R,trivial⟩ (At.r ⟨x7,hF,R,R⟩)
 ·rintro _ _ ⟨x4,hF,rfl,rfl⟩
  unfold lexer_classes.c1 at hF
  refine At.seq (At.region ?_)
  obtain ⟨hq9,hF⟩:=hF
  refine At.d R R R R (does_aidxv_box (n:=256) (sz:=1) (ja R) (ji _ _) Tryz.underlying176 ty_5.size hq9) ?_
  refine At.f R (jx R R (ja R) 1 R (Sub.trans (Sub.self (kArr 256 (kInt .u8))) (subv_176 hq9)) ty_5 (ji _ _)) ?_
  rintro _ _ ⟨rfl,rfl⟩
  obtain ⟨hq10,hF⟩:=hF
  refine At.d R R R R (does_aidxv_box (n:=256) (sz:=1) (ja R) (ji _ _) Tryz.underlying176 ty_5.size hq10) ?_
  refine At.f R (jx R R (ja R) 1 R (Sub.trans (Sub.self (kArr 256 (kInt .u8))) (subv_176 hq10)) ty_5 (ji _ _)) ?_
  rintro _ _ ⟨rfl,rfl⟩
  obtain ⟨hq11,hF⟩:=hF
  refine At.d R R R R (does_aidxv_box (n:=256) (sz:=1) (ja R) (ji _ _) Tryz.underlying176 ty_5.size hq11) ?_
  refine At.f R (jx R R (ja R) 1 R (Sub.trans (Sub.self (kArr 256 (kInt .u8))) (subv_176 hq11)) ty_5 (ji _ _)) ?_
  rintro _ _ ⟨rfl,rfl⟩
  refine At.done (At.vh (At.seq (At.region (At.d R R R R (jc (ja R) 1 R (Sub.self (kArr 256 (kInt .u8))) ty_176) ?_))))
  refine At.f R (jx R R (ja R) 0 R (Sub.self (kArr 256 (kInt .u8))) ty_176 (ja R)) ?_
  rintro _ _ ⟨rfl,rfl⟩
  refine At.done (At.vh (At.ret ?_))
  exact At.j rfl (rv_cell rfl 0 rfl ty_176) [] rfl ⟨(aset_176 (aset_176 (aset_176 x4 (35:Int) (2:Int)) (95:Int) (5:Int)) (34:Int) (7:Int)),hF,rfl,rfl⟩
def lexer_Name.c1 (s1:BA):W Bool:=W.ret ((!(sEq s1 (⟨#[]⟩:BA)))&&(decide ((s1.size:Int)≤(24:Int))))
def lexer_Name.l1 (s1:BA) (r1:(List Int)) (K1:W Bool) (A1:Int→W Bool) (t6:Int):W Bool:=W.ite (decide (t6<(s1.size:Int))) (W.req (0≤t6∧t6<(s1.size:Int)) (W.req (0≤(byteAt s1 t6)∧(byteAt s1 t6)<(256:Int)) (W.ite (((aget_176 r1 (byteAt s1 t6)) != (3:Int))&&((t6==(0:Int))||(((aget_176 r1 (byteAt s1 t6)) != (4:Int))&&((aget_176 r1 (byteAt s1 t6)) != (5:Int))))) (W.ret false) (A1 (w64 (t6+(1:Int))))))) (K1)
def lexer_Name.F (s1:BA):W Bool:=W.bind (lexer_classes.F) (fun r1=>W.ex fun n=>W.iter1 (lexer_Name.l1 s1 r1 (lexer_Name.c1 s1)) n (0:Int))
theorem lexer_Name.ok {s1:BA} {Q:Bool→Prop} (hF:lexer_Name.F s1 Q):Con Tryz.prog 81 [.tv kStr s1] [] (fun ta rs'=>∃ (r:Bool),Q r∧ta=.tv kBool r∧rs'=[]):=by
 refine Con.i Tryz.func81 Tryz.ntmps81 R R (fun C=>?_)
 unfold lexer_Name.F at hF
 refine At.seq (At.region (At.d R R R R (jd (x:=(.tv kBool false)) (jl _)) ?_))
 refine At.done (At.vh (At.seq (At.region ?_)))
 replace hF:=W.vm hF
 refine At.f R (jn R R jp (jq R en_130 jg) (lexer_classes.ok hF) (by rintro _ _ ⟨r,_,rfl,_⟩;exact (flat_tv (flatK_arr flatK_int)))) ?_
 rintro _ _ ⟨_,_,⟨r1,hF,rfl,rfl⟩,rfl,rfl⟩
 refine At.f R (eff_alloc R R R tz_176) ?_
 rintro _ _ ⟨g1,rfl,rfl⟩
 refine At.f R (jx R R (ja R) 0 R (Sub.self (kArr 256 (kInt .u8))) ty_176 (ja R)) ?_
 rintro _ _ ⟨rfl,rfl⟩
 refine At.done (At.vh ?_)
 refine At.cut (fun rs L=>∃ _:Unit,lexer_Name.c1 s1 Q∧rs=[]∧L=mkL [(0,(.tv kStr s1))]) ?_ ?_
 ·refine At.seq (At.region (At.d R R R R (jb (x:=(.tv kStr s1)) (ja R)) ?_))
  refine At.d R R R R (does_len_str (ja R) Tryz.underlying9) ?_
  refine At.d R R R R (jb (x:=(.tv (kInt .i64) (0:Int))) (ji _ _)) ?_
  refine At.done (At.vh (At.block ?_))
  obtain ⟨n1,hF⟩:=hF
  refine At.w [0] R [(0,(.tv kStr s1)),(3,(.eq (.pointer (some ⟨g1,0,none⟩)))),(8,(.tv (kInt .i64) (s1.size:Int))),(9,(.tv (kInt .i64) (0:Int)))] ⟨R,R,R,R,trivial⟩ ?_
  refine At.loop (fun m rs L=>∃ (t6:Int),W.iter1 (lexer_Name.l1 s1 r1 (lexer_Name.c1 s1)) m t6 Q∧rs=[.box g1 176 (kArr 256 (kInt .u8)) r1]∧L=mkL [(0,(.tv kStr s1)),(3,(.eq (.pointer (some ⟨g1,0,none⟩)))),(8,(.tv (kInt .i64) (s1.size:Int))),(9,(.tv (kInt .i64) t6))]) ?_ ?_ (m:=n1) ⟨(0:Int),hF,R,R⟩
  ·rintro rs L ⟨_,hF,_,_⟩;exact hF
  ·rintro m1 _ _ ⟨t6,hF,rfl,rfl⟩
   replace hF:=W.iter1_s hF
   unfold lexer_Name.l1 at hF
   refine At.seq (At.region (At.d R R R R (jk (ja R) (ja R) vd) ?_))
   refine At.done (At.vh (At.seq ?_))
   refine At.cond (ja R) (fun hb9=>?_) (fun hb9=>?_)
   ·replace hF:=W.ite_t hb9 hF
    refine At.skip (At.vh (At.seq (At.block (At.seq (At.region (At.d R R R R (jb (x:=(.tv (kInt .i64) t6)) (ja R)) ?_))))))
    refine At.d R R R R (jd (x:=(.tv (kInt .i64) t6)) (ja R)) ?_
    refine At.done (At.vh (At.seq (At.region (At.d R R R R (jb (x:=(.tv kStr s1)) (ja R)) ?_))))
    refine At.d R R R R (jb (x:=(.tv (kInt .i64) t6)) (ja R)) ?_
    obtain ⟨hq9,hF⟩:=hF
    refine At.d R R R R (does_index_str (ja R) (ja R) Tryz.underlying9 hq9) ?_
    obtain ⟨hq10,hF⟩:=hF
    refine At.d R R R R (does_aidxv_box (n:=256) (sz:=1) (ja R) (ja R) Tryz.underlying176 ty_5.size hq10) ?_
    refine At.d R R R R (jc (ja R) 0 R (Sub.trans (Sub.self (kArr 256 (kInt .u8))) (subv_176 hq10)) ty_5) ?_
    refine At.d R R R R (jd (x:=(.tv (kInt .u8) (aget_176 r1 (byteAt s1 t6)))) (ja R)) ?_
    refine At.done (At.vh (At.seq (At.region (At.d R R R R (jb (x:=(.tv (kInt .u8) (aget_176 r1 (byteAt s1 t6)))) (ja R)) ?_))))
    refine At.d R R R R (jk (ja R) (ji _ _) bin_neq) ?_
    refine At.d R R R R (jb (x:=(.tv kBool ((aget_176 r1 (byteAt s1 t6)) != (3:Int)))) (ja R)) ?_
    refine At.vj R R R R (ju R) R (fun hg44=>(jb (x:=(.tv (kInt .i64) t6)) (ja R))) ?_
    refine At.vj R R R R (ju R) R (fun hg45=>(jk (jh R hg45) (ji _ _) bin_eql)) ?_
    refine At.vj R R R R (ju R) R (fun hg46=>(jb (x:=(.tv kBool (t6==(0:Int)))) (jh R hg46))) ?_
    refine At.vj R R R R (sees_wf R) R (fun hg47=>(jb (x:=(.tv (kInt .u8) (aget_176 r1 (byteAt s1 t6)))) (ja R))) ?_
    refine At.vj R R R R (sees_wf R) R (fun hg48=>(jk (jh R hg48) (ji _ _) bin_neq)) ?_
    refine At.vj R R R R (sees_wf R) R (fun hg49=>(jb (x:=(.tv kBool ((aget_176 r1 (byteAt s1 t6)) != (4:Int)))) (jh R hg49))) ?_
    refine At.vj R R R R (jt R) R (fun hg50=>(jb (x:=(.tv (kInt .u8) (aget_176 r1 (byteAt s1 t6)))) (ja R))) ?_
    refine At.vj R R R R (jt R) R (fun hg51=>(jk (jh R hg51) (ji _ _) bin_neq)) ?_
    refine At.vj R R R R (sees_wf R) R (fun hg52=>(jm (jh R hg52) (ja R) (jl _) (pick_andG (and_of hg52)))) ?_
    refine At.vj R R R R (ju R) R (fun hg53=>(jm (jh R hg53) (jl _) (ja R) (pick_orG (andn_of hg53)))) ?_
    refine At.d R R R R (jm (ja R) (ja R) (jl _) ve) ?_
    refine At.done (At.vh ?_)
    refine At.cond (ja R) (fun hb10=>?_) (fun hb10=>?_)
    ·replace hF:=W.ite_t hb10 hF
     refine At.seq (At.region (At.d R R R R (jd (x:=(.tv kBool false)) (jl _)) ?_))
     refine At.done (At.vh (At.ret ?_))
     refine At.q ?_
     refine At.vi (At.vi ?_)
     refine At.q ?_
     refine At.vi ?_
     exact At.j rfl (rv_tmp rfl) [] rfl ⟨false,hF,rfl,rfl⟩
    ·replace hF:=W.ite_f hb10 hF
     refine At.skip ?_
     refine At.n ?_
     refine At.vh (At.region (At.d R R R R (jk (ja R) (ji _ _) vc) ?_))
     refine At.d R R R R (jb (x:=(.tv (kInt .i64) (w64 (t6+(1:Int))))) (ja R)) ?_
     refine At.done (At.vh ?_)
     refine At.w [0] R [(0,(.tv kStr s1)),(3,(.eq (.pointer (some ⟨g1,0,none⟩)))),(8,(.tv (kInt .i64) (s1.size:Int))),(9,(.tv (kInt .i64) (w64 (t6+(1:Int)))))] ⟨R,R,R,R,trivial⟩ (At.r ⟨(w64 (t6+(1:Int))),hF,R,R⟩)
   ·replace hF:=W.ite_f hb9 hF
    refine At.exit ?_
    refine At.x (At.x ?_)
    refine At.h ?_
    refine At.vh ?_
    refine At.w [] R [(0,(.tv kStr s1))] ⟨R,trivial⟩ (At.r ⟨(),hF,R,R⟩)
 ·rintro _ _ ⟨_,hF,rfl,rfl⟩
  unfold lexer_Name.c1 at hF
  refine At.seq (At.region (At.d R R R R (jb (x:=(.tv kStr s1)) (ja R)) ?_))
  refine At.d R R R R (jk (ja R) (vg _) bin_sneq) ?_
  refine At.d R R R R (jb (x:=(.tv kBool (!(sEq s1 (⟨#[]⟩:BA))))) (ja R)) ?_
  refine At.vj R R R R (ju R) R (fun hg21=>(jb (x:=(.tv kStr s1)) (ja R))) ?_
  refine At.vj R R R R (ju R) R (fun hg22=>(does_len_str (jh R hg22) Tryz.underlying9)) ?_
  refine At.vj R R R R (ju R) R (fun hg23=>(jk (jh R hg23) (ji _ _) bin_leq)) ?_
  refine At.d R R R R (jm (ja R) (ja R) (jl _) ve) ?_
  refine At.d R R R R (jd (x:=(.tv kBool ((!(sEq s1 (⟨#[]⟩:BA)))&&(decide ((s1.size:Int)≤(24:Int)))))) (ja R)) ?_
  refine At.done (At.vh (At.ret ?_))
  exact At.j rfl (rv_tmp rfl) [] rfl ⟨((!(sEq s1 (⟨#[]⟩:BA)))&&(decide ((s1.size:Int)≤(24:Int)))),hF,rfl,rfl⟩
def object_least.F (kind1:Int):W Int:=W.req (0≤kind1∧kind1<(6:Int)) (W.ret (aget_178 ((0:Int),(0:Int),(2:Int),(3:Int),(1:Int),(3:Int)) kind1))
theorem object_least.ok {kind1:Int} {Q:Int→Prop} (hF:object_least.F kind1 Q):Con Tryz.prog 83 [.tv (kInt .i64) kind1] [] (fun ta rs'=>∃ (r:Int),Q r∧ta=.tv (kInt .i64) r∧rs'=[]):=by
 refine Con.i Tryz.func83 Tryz.ntmps83 R R (fun C=>?_)
 unfold object_least.F at hF
 refine At.seq (At.region (At.d R R R R (jd (x:=(.tv (kInt .i64) (0:Int))) (ji _ _)) ?_))
 refine At.done (At.vh (At.seq (At.region (At.d R R R R (jz (jr (ji _ _) (jr (ji _ _) (jr (ji _ _) (jr (ji _ _) (jr (ji _ _) parts_nil))))) zr_178 bd_178 R (fills_cons R sub_a178_1 (fills_cons R sub_a178_2 (fills_cons R sub_a178_3 (fills_cons R sub_a178_4 (fills_cons R sub_a178_5 fills_nil)))))) ?_))))
 refine At.d R R R R (jb (x:=(.tv (kInt .i64) kind1)) (ja R)) ?_
 obtain ⟨hq1,hF⟩:=hF
 refine At.d R R R R (does_index_arr (n:=6) (sz:=1) (K:=(kPair (kInt .i64) (kPair (kInt .i64) (kPair (kInt .i64) (kPair (kInt .i64) (kPair (kInt .i64) (kInt .i64))))))) R (ja R) (ja R) Tryz.underlying178 ty_3 R hq1 (subv_178 hq1)) ?_
 refine At.d R R R R (jd (x:=(.tv (kInt .i64) (aget_178 ((0:Int),(0:Int),(2:Int),(3:Int),(1:Int),(3:Int)) kind1))) (ja R)) ?_
 refine At.done (At.vh (At.ret ?_))
 exact At.j rfl (rv_tmp rfl) [] rfl ⟨(aget_178 ((0:Int),(0:Int),(2:Int),(3:Int),(1:Int),(3:Int)) kind1),hF,rfl,rfl⟩
def object_on.F (p1:Point):W Bool:=W.ret ((((decide ((0:Int)≤p1.X))&&(decide (p1.X<(1048576:Int))))&&(decide ((0:Int)≤p1.Y)))&&(decide (p1.Y<(1048576:Int))))
theorem object_on.ok {p1:Point} {Q:Bool→Prop} (hF:object_on.F p1 Q):Con Tryz.prog 86 [.tv kPoint p1] [] (fun ta rs'=>∃ (r:Bool),Q r∧ta=.tv kBool r∧rs'=[]):=by
 refine Con.i Tryz.func86 Tryz.ntmps86 R R (fun C=>?_)
 unfold object_on.F at hF
 refine At.seq (At.region (At.f R (jw R R R (ja R)) ?_))
 rintro _ _ ⟨g1,rfl,rfl⟩
 refine At.d R R R R (jd (x:=(.tv kBool false)) (jl _)) ?_
 refine At.done (At.vh (At.seq (At.region (At.d R R R R (je (ja R) fa_37_0) ?_))))
 refine At.d R R R R (jc (ja R) 0 R sub_Point_0 ty_3) ?_
 refine At.d R R R R (jk (ja R) (ji _ _) bin_geq) ?_
 refine At.d R R R R (jb (x:=(.tv kBool (decide ((0:Int)≤p1.X)))) (ja R)) ?_
 refine At.vj R R R R (ju R) R (fun hg1=>(je (ja R) fa_37_0)) ?_
 refine At.vj R R R R (ju R) R (fun hg2=>(jc (jh R hg2) 0 R sub_Point_0 ty_3)) ?_
 refine At.vj R R R R (ju R) R (fun hg3=>(jk (jh R hg3) (ji _ _) vd)) ?_
 refine At.d R R R R (jm (ja R) (ja R) (jl _) ve) ?_
 refine At.d R R R R (jb (x:=(.tv kBool ((decide ((0:Int)≤p1.X))&&(decide (p1.X<(1048576:Int)))))) (ja R)) ?_
 refine At.vj R R R R (ju R) R (fun hg4=>(je (ja R) fa_37_1)) ?_
 refine At.vj R R R R (ju R) R (fun hg5=>(jc (jh R hg5) 0 R sub_Point_1 ty_3)) ?_
 refine At.vj R R R R (ju R) R (fun hg6=>(jk (jh R hg6) (ji _ _) bin_geq)) ?_
 refine At.d R R R R (jm (ja R) (ja R) (jl _) ve) ?_
 refine At.d R R R R (jb (x:=(.tv kBool (((decide ((0:Int)≤p1.X))&&(decide (p1.X<(1048576:Int))))&&(decide ((0:Int)≤p1.Y))))) (ja R)) ?_
 refine At.vj R R R R (ju R) R (fun hg7=>(je (ja R) fa_37_1)) ?_
 refine At.vj R R R R (ju R) R (fun hg8=>(jc (jh R hg8) 0 R sub_Point_1 ty_3)) ?_
 refine At.vj R R R R (ju R) R (fun hg9=>(jk (jh R hg9) (ji _ _) vd)) ?_
 refine At.d R R R R (jm (ja R) (ja R) (jl _) ve) ?_
 refine At.d R R R R (jd (x:=(.tv kBool ((((decide ((0:Int)≤p1.X))&&(decide (p1.X<(1048576:Int))))&&(decide ((0:Int)≤p1.Y)))&&(decide (p1.Y<(1048576:Int)))))) (ja R)) ?_
 refine At.done (At.vh (At.ret ?_))
 exact At.j rfl (rv_tmp rfl) [] rfl ⟨((((decide ((0:Int)≤p1.X))&&(decide (p1.X<(1048576:Int))))&&(decide ((0:Int)≤p1.Y)))&&(decide (p1.Y<(1048576:Int)))),hF,rfl,rfl⟩
def object_word.F (kind1:Int):W BA:=W.ite ((decide (kind1<(0:Int)))||(decide ((6:Int)≤kind1))) (W.ret (⟨#[]⟩:BA)) (W.req (0≤kind1∧kind1<(6:Int)) (W.ret (aget_175 ((⟨#[]⟩:BA),(⟨#[110,111,100,101]⟩:BA),(⟨#[119,97,121]⟩:BA),(⟨#[97,114,101,97]⟩:BA),(⟨#[114,111,117,116,101]⟩:BA),(⟨#[116,117,114,110]⟩:BA)) kind1)))
theorem object_word.ok {kind1:Int} {Q:BA→Prop} (hF:object_word.F kind1 Q):Con Tryz.prog 80 [.tv (kInt .i64) kind1] [] (fun ta rs'=>∃ (r:BA),Q r∧ta=.tv kStr r∧rs'=[]):=by
 refine Con.i Tryz.func80 Tryz.ntmps80 R R (fun C=>?_)
 unfold object_word.F at hF
 refine At.seq (At.region (At.d R R R R (jd (x:=(.tv kStr (⟨#[]⟩:BA))) (vg _)) ?_))
 refine At.done (At.vh (At.seq (At.region (At.d R R R R (jz (jr (vg _) (jr (vg _) (jr (vg _) (jr (vg _) (jr (vg _) parts_nil))))) zr_175 bd_175 R (fills_cons R sub_a175_1 (fills_cons R sub_a175_2 (fills_cons R sub_a175_3 (fills_cons R sub_a175_4 (fills_cons R sub_a175_5 fills_nil)))))) ?_))))
 refine At.f R (eff_alloc R R R tz_175) ?_
 rintro _ _ ⟨g1,rfl,rfl⟩
 refine At.f R (jx R R (ja R) 0 R (Sub.self (kPair kStr (kPair kStr (kPair kStr (kPair kStr (kPair kStr kStr)))))) ty_175 (ja R)) ?_
 rintro _ _ ⟨rfl,rfl⟩
 refine At.done (At.vh (At.seq (At.seq (At.region (At.d R R R R (jb (x:=(.tv (kInt .i64) kind1)) (ja R)) ?_)))))
 refine At.d R R R R (jk (ja R) (ji _ _) vd) ?_
 refine At.d R R R R (jb (x:=(.tv kBool (decide (kind1<(0:Int))))) (ja R)) ?_
 refine At.vj R R R R (jv R) R (fun hg1=>(jb (x:=(.tv (kInt .i64) kind1)) (ja R))) ?_
 refine At.vj R R R R (jv R) R (fun hg2=>(jk (jh R hg2) (ji _ _) bin_geq)) ?_
 refine At.d R R R R (jm (ja R) (jl _) (ja R) pick_or) ?_
 refine At.done (At.vh ?_)
 refine At.cond (ja R) (fun hb1=>?_) (fun hb1=>?_)
 ·replace hF:=W.ite_t hb1 hF
  refine At.seq (At.region (At.d R R R R (jd (x:=(.tv kStr (⟨#[]⟩:BA))) (vg _)) ?_))
  refine At.done (At.vh (At.ret (At.vi ?_)))
  exact At.j rfl (rv_tmp rfl) [] rfl ⟨(⟨#[]⟩:BA),hF,rfl,rfl⟩
 ·replace hF:=W.ite_f hb1 hF
  refine At.skip (At.vh (At.seq (At.region (At.d R R R R (jb (x:=(.tv (kInt .i64) kind1)) (ja R)) ?_))))
  obtain ⟨hq1,hF⟩:=hF
  refine At.d R R R R (does_aidxv_box (n:=6) (sz:=1) (ja R) (ja R) Tryz.underlying175 ty_9.size hq1) ?_
  refine At.d R R R R (jc (ja R) 0 R (Sub.trans (Sub.self (kPair kStr (kPair kStr (kPair kStr (kPair kStr (kPair kStr kStr)))))) (subv_175 hq1)) ty_9) ?_
  refine At.d R R R R (jd (x:=(.tv kStr (aget_175 ((⟨#[]⟩:BA),(⟨#[110,111,100,101]⟩:BA),(⟨#[119,97,121]⟩:BA),(⟨#[97,114,101,97]⟩:BA),(⟨#[114,111,117,116,101]⟩:BA),(⟨#[116,117,114,110]⟩:BA)) kind1))) (ja R)) ?_
  refine At.done (At.vh (At.ret ?_))
  exact At.j rfl (rv_tmp rfl) [] rfl ⟨(aget_175 ((⟨#[]⟩:BA),(⟨#[110,111,100,101]⟩:BA),(⟨#[119,97,121]⟩:BA),(⟨#[97,114,101,97]⟩:BA),(⟨#[114,111,117,116,101]⟩:BA),(⟨#[116,117,114,110]⟩:BA)) kind1),hF,rfl,rfl⟩
def object_Valid_1__b_b_b.F (s1:BA) (t1:Object) (t2:BA) (t3:(List (BA×Bool))):W (Bool×BA×(List (BA×Bool))):=W.bind (W.ite (!(((t1.Kind==(2:Int))&&(sEq s1 t2))||((t1.Kind==(3:Int))&&(mget s1 false t3)))) (lexer_Name.F s1) (W.ret false)) (fun r1=>W.ret (((((t1.Kind==(2:Int))&&(sEq s1 t2))||((t1.Kind==(3:Int))&&(mget s1 false t3)))||(!r1)),s1,(mset s1 true t3)))
theorem object_Valid_1__b_b_b.ok {s1:BA} {t1:Object} {g1:Nat} {t2:BA} {g2:Nat} {t3:(List (BA×Bool))} {g3:Nat} {g4:Nat} {Q:(Bool×BA×(List (BA×Bool)))→Prop} (hF:object_Valid_1__b_b_b.F s1 t1 t2 t3 Q):Con Tryz.prog 84 [.tv kStr s1,.eq (.pointer (some ⟨g1,0,none⟩)),.eq (.pointer (some ⟨g2,0,none⟩)),.eq (.pointer (some ⟨g3,0,none⟩))] [.box g1 59 kObject t1,.box g2 9 kStr t2,.box g3 56 kRaw (.map (some g4)),.map g4 kStr kBool t3] (fun ta rs'=>∃ (r:(Bool×BA×(List (BA×Bool)))),Q r∧ta=.tv kBool r.1∧rs'=[.box g1 59 kObject t1,.box g2 9 kStr r.2.1,.box g3 56 kRaw (.map (some g4)),.map g4 kStr kBool r.2.2]):=by
 refine Con.i Tryz.func84 Tryz.ntmps84 R R (fun C=>?_)
 unfold object_Valid_1__b_b_b.F at hF
 refine At.seq (At.region (At.d R R R R (jd (x:=(.tv kBool false)) (jl _)) ?_))
 refine At.done (At.vh (At.seq (At.region (At.d R R R R (je (ja R) fa_59_1) ?_))))
 refine At.d R R R R (jc (ja R) 0 R sub_Object_1 ty_3) ?_
 refine At.d R R R R (jk (ja R) (ji _ _) bin_eql) ?_
 refine At.d R R R R (jb (x:=(.tv kBool (t1.Kind==(2:Int)))) (ja R)) ?_
 refine At.vj R R R R (ju R) R (fun hg1=>(jb (x:=(.tv kStr s1)) (ja R))) ?_
 refine At.vj R R R R (ju R) R (fun hg2=>(jc (ja R) 1 R (Sub.self kStr) ty_9)) ?_
 refine At.vj R R R R (ju R) R (fun hg3=>(jk (jh R hg3) (jh R hg3) bin_seql)) ?_
 refine At.d R R R R (jm (ja R) (ja R) (jl _) ve) ?_
 refine At.d R R R R (jb (x:=(.tv kBool ((t1.Kind==(2:Int))&&(sEq s1 t2)))) (ja R)) ?_
 refine At.vj R R R R (jv R) R (fun hg4=>(je (ja R) fa_59_1)) ?_
 refine At.vj R R R R (jv R) R (fun hg5=>(jc (jh R hg5) 0 R sub_Object_1 ty_3)) ?_
 refine At.vj R R R R (jv R) R (fun hg6=>(jk (jh R hg6) (ji _ _) bin_eql)) ?_
 refine At.vj R R R R (jv R) R (fun hg7=>(jb (x:=(.tv kBool (t1.Kind==(3:Int)))) (jh R hg7))) ?_
 refine At.vj R R R R (jt R) R (fun hg8=>(does_load_raw (ja R) 2 R (Sub.self kRaw) tyr_56 R)) ?_
 refine At.vj R R R R (jt R) R (fun hg9=>(jb (x:=(.tv kStr s1)) (ja R))) ?_
 refine At.vj R R R R (jt R) R (fun hg10=>(does_look (jh R hg10) 3 R mt_56 (jh R hg10))) ?_
 refine At.vj R R R R (jv R) R (fun hg11=>(jm (jh R hg11) (ja R) (jl _) (pick_andG (and_of hg11)))) ?_
 refine At.d R R R R (jm (ja R) (jl _) (ja R) pick_or) ?_
 refine At.d R R R R (jd (x:=(.tv kBool (((t1.Kind==(2:Int))&&(sEq s1 t2))||((t1.Kind==(3:Int))&&(mget s1 false t3))))) (ja R)) ?_
 refine At.done (At.vh (At.seq (At.region (At.d R R R R (does_load_raw (ja R) 2 R (Sub.self kRaw) tyr_56 R) ?_))))
 refine At.d R R R R (jb (x:=(.tv kStr s1)) (ja R)) ?_
 refine At.d R R R R (jb (x:=(.tv kStr s1)) (ja R)) ?_
 refine At.f R (eff_mapUpdate R R (ja R) 3 R mt_56 (ja R) (jl _)) ?_
 rintro _ _ ⟨rfl,rfl⟩
 refine At.f R (jx R R (ja R) 1 R (Sub.self kStr) ty_9 (ja R)) ?_
 rintro _ _ ⟨rfl,rfl⟩
 refine At.done (At.vh (At.seq (At.region (At.d R R R R (jb (x:=(.tv kBool (((t1.Kind==(2:Int))&&(sEq s1 t2))||((t1.Kind==(3:Int))&&(mget s1 false t3))))) (ja R)) ?_))))
 refine At.d R R R R (jb (x:=(.tv kBool (((t1.Kind==(2:Int))&&(sEq s1 t2))||((t1.Kind==(3:Int))&&(mget s1 false t3))))) (ja R)) ?_
 refine At.vj R R R R (jv R) R (fun hg12=>(jb (x:=(.tv kStr s1)) (ja R))) ?_
 replace hF:=W.vm hF
 refine At.effG R R R R (jv R) hF (fun r=>.tv kBool r) (fun hg13 hF=>eff_of (jn R R jp (jq R en_81 (jf (jh R hg13) jg)) (lexer_Name.ok hF) (by rintro _ _ ⟨r,_,rfl,_⟩;exact vl)) (by rintro _ _ ⟨_,_,⟨r,hF,rfl,rfl⟩,rfl,rfl⟩;exact ⟨r,hF,R,R⟩)) (fun r1 hF=>?_)
 refine At.vj R R R R (jv R) R (fun hg14=>(does_not (jh R hg14))) ?_
 refine At.d R R R R (jm (ja R) (jl _) (ja R) pick_or) ?_
 refine At.d R R R R (jd (x:=(.tv kBool ((((t1.Kind==(2:Int))&&(sEq s1 t2))||((t1.Kind==(3:Int))&&(mget s1 false t3)))||(!r1)))) (ja R)) ?_
 refine At.done (At.vh (At.ret ?_))
 exact At.j rfl (rv_tmp rfl) [0,1,2,3] rfl ⟨(((((t1.Kind==(2:Int))&&(sEq s1 t2))||((t1.Kind==(3:Int))&&(mget s1 false t3)))||(!r1)),s1,(mset s1 true t3)),hF,rfl,rfl⟩
def vu.c1 (x7:BA) (x8:(List (BA×Bool))):W (Int×BA×(List (BA×Bool))):=W.ret ((-1:Int),x7,x8)
def vu.l1 (s1:(List BA)) (c1:Object) (K1:BA→(List (BA×Bool))→W (Int×BA×(List (BA×Bool)))) (A1:BA→(List (BA×Bool))→Int→W (Int×BA×(List (BA×Bool)))) (x13:BA) (x14:(List (BA×Bool))) (t6:Int):W (Int×BA×(List (BA×Bool))):=W.ite (decide (t6<(s1.length:Int))) (W.req (0≤t6∧t6<(s1.length:Int)) (W.bind (object_Valid_1__b_b_b.F (rd (⟨#[]⟩:BA) s1 t6) c1 x13 x14) (fun r5=>W.ite r5.1 (W.ret (t6,r5.2.1,r5.2.2)) (A1 r5.2.1 r5.2.2 (w64 (t6+(1:Int))))))) (K1 x13 x14)
def vu.F (s1:(List BA)) (c1:Object) (c2:BA) (c3:(List (BA×Bool))):W (Int×BA×(List (BA×Bool))):=W.ex fun n=>W.iter3 (vu.l1 s1 c1 (vu.c1)) n c2 c3 (0:Int)
theorem vu.ok {s1:(List BA)} {c1:Object} {g1:Nat} {c2:BA} {g2:Nat} {c3:(List (BA×Bool))} {g3:Nat} {g4:Nat} {Q:(Int×BA×(List (BA×Bool)))→Prop} (hF:vu.F s1 c1 c2 c3 Q):Con Tryz.prog 131 [.tv (kSlice kStr) s1,.cls 84 0 (tupl [.eq (.pointer (some ⟨g1,0,none⟩)),.eq (.pointer (some ⟨g2,0,none⟩)),.eq (.pointer (some ⟨g3,0,none⟩))])] [.box g1 59 kObject c1,.box g2 9 kStr c2,.box g3 56 kRaw (.map (some g4)),.map g4 kStr kBool c3] (fun ta rs'=>∃ (r:(Int×BA×(List (BA×Bool)))),Q r∧ta=.tv (kInt .i64) r.1∧rs'=[.box g1 59 kObject c1,.box g2 9 kStr r.2.1,.box g3 56 kRaw (.map (some g4)),.map g4 kStr kBool r.2.2]):=by
 refine Con.i Tryz.func131 Tryz.ntmps131 R R (fun C=>?_)
 unfold vu.F at hF
 refine At.seq (At.region (At.d R R R R (jd (x:=(.tv (kInt .i64) (0:Int))) (ji _ _)) ?_))
 refine At.done (At.vh ?_)
 refine At.cut (fun rs L=>∃ (x7:BA) (x8:(List (BA×Bool))),vu.c1 x7 x8 Q∧rs=[.box g1 59 kObject c1,.box g2 9 kStr x7,.box g3 56 kRaw (.map (some g4)),.map g4 kStr kBool x8]∧L=mkL []) ?_ ?_
 ·refine At.seq (At.region (At.d R R R R (jb (x:=(.tv (kSlice kStr) s1)) (ja R)) ?_))
  refine At.d R R R R (js (ja R) Tryz.underlying41) ?_
  refine At.d R R R R (jb (x:=(.tv (kInt .i64) (0:Int))) (ji _ _)) ?_
  refine At.done (At.vh (At.block ?_))
  obtain ⟨n1,hF⟩:=hF
  refine At.w [0,1,2,3] R [(0,(.tv (kSlice kStr) s1)),(1,(.cls 84 0 (tupl [(.eq (.pointer (some ⟨g1,0,none⟩))),(.eq (.pointer (some ⟨g2,0,none⟩))),(.eq (.pointer (some ⟨g3,0,none⟩)))]))),(7,(.tv (kInt .i64) (s1.length:Int))),(8,(.tv (kInt .i64) (0:Int)))] ⟨R,R,R,R,trivial⟩ ?_
  refine At.loop (fun m rs L=>∃ (x13:BA) (x14:(List (BA×Bool))) (t6:Int),W.iter3 (vu.l1 s1 c1 (vu.c1)) m x13 x14 t6 Q∧rs=[.box g1 59 kObject c1,.box g2 9 kStr x13,.box g3 56 kRaw (.map (some g4)),.map g4 kStr kBool x14]∧L=mkL [(0,(.tv (kSlice kStr) s1)),(1,(.cls 84 0 (tupl [(.eq (.pointer (some ⟨g1,0,none⟩))),(.eq (.pointer (some ⟨g2,0,none⟩))),(.eq (.pointer (some ⟨g3,0,none⟩)))]))),(7,(.tv (kInt .i64) (s1.length:Int))),(8,(.tv (kInt .i64) t6))]) ?_ ?_ (m:=n1) ⟨c2,c3,(0:Int),hF,R,R⟩
  ·rintro rs L ⟨_,_,_,hF,_,_⟩;exact hF
  ·rintro m1 _ _ ⟨x13,x14,t6,hF,rfl,rfl⟩
   replace hF:=W.iter3_s hF
   unfold vu.l1 at hF
   refine At.seq (At.region (At.d R R R R (jk (ja R) (ja R) vd) ?_))
   refine At.done (At.vh (At.seq ?_))
   refine At.cond (ja R) (fun hb9=>?_) (fun hb9=>?_)
   ·replace hF:=W.ite_t hb9 hF
    refine At.skip (At.vh (At.seq (At.block (At.seq (At.region (At.d R R R R (jb (x:=(.tv (kInt .i64) t6)) (ja R)) ?_))))))
    refine At.d R R R R (jd (x:=(.tv (kInt .i64) t6)) (ja R)) ?_
    refine At.done (At.vh (At.seq (At.region (At.d R R R R (jb (x:=(.cls 84 0 (tupl [(.eq (.pointer (some ⟨g1,0,none⟩))),(.eq (.pointer (some ⟨g2,0,none⟩))),(.eq (.pointer (some ⟨g3,0,none⟩)))]))) (ja R)) ?_))))
    refine At.d R R R R (jb (x:=(.tv (kSlice kStr) s1)) (ja R)) ?_
    refine At.d R R R R (jb (x:=(.tv (kInt .i64) t6)) (ja R)) ?_
    obtain ⟨hq5,hF⟩:=hF
    refine At.d R R R R (vf (⟨#[]⟩:BA) (ja R) (ja R) Tryz.underlying41 ty_9 hq5) ?_
    refine At.d R R R R (vq (K:=kStr) (ja R) ty_9) ?_
    replace hF:=W.vm hF
    refine At.f R (jo R R (ent_val0 R (ja R) en_84 (jf (ja R) jg)) [0,1,2,3] R (object_Valid_1__b_b_b.ok hF)) ?_
    rintro _ _ ⟨_,_,⟨r5,hF,rfl,rfl⟩,rfl,rfl⟩
    refine At.done (At.vh ?_)
    refine At.cond (ja R) (fun hb10=>?_) (fun hb10=>?_)
    ·replace hF:=W.ite_t hb10 hF
     refine At.seq (At.region (At.d R R R R (jb (x:=(.tv (kInt .i64) t6)) (ja R)) ?_))
     refine At.d R R R R (jd (x:=(.tv (kInt .i64) t6)) (ja R)) ?_
     refine At.done (At.vh (At.ret ?_))
     refine At.q ?_
     refine At.vi (At.vi ?_)
     refine At.q ?_
     refine At.vi ?_
     exact At.j rfl (rv_tmp rfl) [0,1,2,3] rfl ⟨(t6,r5.2.1,r5.2.2),hF,rfl,rfl⟩
    ·replace hF:=W.ite_f hb10 hF
     refine At.skip ?_
     refine At.n ?_
     refine At.vh (At.region (At.d R R R R (jk (ja R) (ji _ _) vc) ?_))
     refine At.d R R R R (jb (x:=(.tv (kInt .i64) (w64 (t6+(1:Int))))) (ja R)) ?_
     refine At.done (At.vh ?_)
     refine At.w [0,1,2,3] R [(0,(.tv (kSlice kStr) s1)),(1,(.cls 84 0 (tupl [(.eq (.pointer (some ⟨g1,0,none⟩))),(.eq (.pointer (some ⟨g2,0,none⟩))),(.eq (.pointer (some ⟨g3,0,none⟩)))]))),(7,(.tv (kInt .i64) (s1.length:Int))),(8,(.tv (kInt .i64) (w64 (t6+(1:Int)))))] ⟨R,R,R,R,trivial⟩ (At.r ⟨r5.2.1,r5.2.2,(w64 (t6+(1:Int))),hF,R,R⟩)
   ·replace hF:=W.ite_f hb9 hF
    refine At.exit ?_
    refine At.x (At.x ?_)
    refine At.h ?_
    refine At.vh ?_
    refine At.w [0,1,2,3] R [] trivial (At.r ⟨x13,x14,hF,R,R⟩)
 ·rintro _ _ ⟨x7,x8,hF,rfl,rfl⟩
  unfold vu.c1 at hF
  refine At.seq (At.region (At.d R R R R (jd (x:=(.tv (kInt .i64) (-1:Int))) (ji _ _)) ?_))
  refine At.done (At.vh (At.ret ?_))
  exact At.j rfl (rv_tmp rfl) [0,1,2,3] rfl ⟨((-1:Int),x7,x8),hF,rfl,rfl⟩
def Jg.F (s1:(List BA)) (c1:Object) (c2:BA) (c3:(List (BA×Bool))):W (Bool×BA×(List (BA×Bool))):=W.bind (vu.F s1 c1 c2 c3) (fun r1=>W.ret ((decide ((0:Int)≤r1.1)),r1.2.1,r1.2.2))
theorem Jg.ok {s1:(List BA)} {c1:Object} {g1:Nat} {c2:BA} {g2:Nat} {c3:(List (BA×Bool))} {g3:Nat} {g4:Nat} {Q:(Bool×BA×(List (BA×Bool)))→Prop} (hF:Jg.F s1 c1 c2 c3 Q):Con Tryz.prog 85 [.tv (kSlice kStr) s1,.cls 84 0 (tupl [.eq (.pointer (some ⟨g1,0,none⟩)),.eq (.pointer (some ⟨g2,0,none⟩)),.eq (.pointer (some ⟨g3,0,none⟩))])] [.box g1 59 kObject c1,.box g2 9 kStr c2,.box g3 56 kRaw (.map (some g4)),.map g4 kStr kBool c3] (fun ta rs'=>∃ (r:(Bool×BA×(List (BA×Bool)))),Q r∧ta=.tv kBool r.1∧rs'=[.box g1 59 kObject c1,.box g2 9 kStr r.2.1,.box g3 56 kRaw (.map (some g4)),.map g4 kStr kBool r.2.2]):=by
 refine Con.i Tryz.func85 Tryz.ntmps85 R R (fun C=>?_)
 unfold Jg.F at hF
 refine At.seq (At.region (At.d R R R R (jd (x:=(.tv kBool false)) (jl _)) ?_))
 refine At.done (At.vh (At.seq (At.region (At.d R R R R (jb (x:=(.tv (kSlice kStr) s1)) (ja R)) ?_))))
 refine At.d R R R R (jb (x:=(.cls 84 0 (tupl [(.eq (.pointer (some ⟨g1,0,none⟩))),(.eq (.pointer (some ⟨g2,0,none⟩))),(.eq (.pointer (some ⟨g3,0,none⟩)))]))) (ja R)) ?_
 replace hF:=W.vm hF
 refine At.f R (jo R R (jq R en_131 (jf (ja R) (jf (ja R) jg))) [0,1,2,3] R (vu.ok hF)) ?_
 rintro _ _ ⟨_,_,⟨r1,hF,rfl,rfl⟩,rfl,rfl⟩
 refine At.d R R R R (jk (ja R) (ji _ _) bin_geq) ?_
 refine At.d R R R R (jd (x:=(.tv kBool (decide ((0:Int)≤r1.1)))) (ja R)) ?_
 refine At.done (At.vh (At.ret ?_))
 exact At.j rfl (rv_tmp rfl) [0,1,2,3] rfl ⟨((decide ((0:Int)≤r1.1)),r1.2.1,r1.2.2),hF,rfl,rfl⟩
def tag_Valid.c1 (l1:(List Tag)):W Bool:=W.ret (decide ((l1.length:Int)≤(60:Int)))
def tag_Valid.l1 (l1:(List Tag)) (K1:W Bool) (A1:BA→Int→W Bool) (last6:BA) (t6:Int):W Bool:=W.ite (decide (t6<(l1.length:Int))) (W.req (0≤t6∧t6<(l1.length:Int)) (W.bind (lexer_Name.F ((rd zTag l1 t6).Key)) (fun r5=>W.ite ((((!r5)||(sLt ((rd zTag l1 t6).Key) last6||sEq ((rd zTag l1 t6).Key) last6))||(sEq ((rd zTag l1 t6).Value) (⟨#[]⟩:BA)))||(decide ((200:Int)<(((rd zTag l1 t6).Value).size:Int)))) (W.ret false) (A1 ((rd zTag l1 t6).Key) (w64 (t6+(1:Int))))))) (K1)
def tag_Valid.F (l1:(List Tag)):W Bool:=W.ex fun n=>W.iter2 (tag_Valid.l1 l1 (tag_Valid.c1 l1)) n (⟨#[]⟩:BA) (0:Int)
theorem tag_Valid.ok {l1:(List Tag)} {Q:Bool→Prop} (hF:tag_Valid.F l1 Q):Con Tryz.prog 82 [.tv (kSlice kTag) l1] [] (fun ta rs'=>∃ (r:Bool),Q r∧ta=.tv kBool r∧rs'=[]):=by
 refine Con.i Tryz.func82 Tryz.ntmps82 R R (fun C=>?_)
 unfold tag_Valid.F at hF
 refine At.seq (At.region (At.d R R R R (jd (x:=(.tv kBool false)) (jl _)) ?_))
 refine At.done (At.vh (At.seq (At.region (At.d R R R R (jd (x:=(.tv kStr (⟨#[]⟩:BA))) (vg _)) ?_))))
 refine At.done (At.vh ?_)
 refine At.cut (fun rs L=>∃ _:Unit,tag_Valid.c1 l1 Q∧rs=[]∧L=mkL [(0,(.tv (kSlice kTag) l1))]) ?_ ?_
 ·refine At.seq (At.region (At.d R R R R (jb (x:=(.tv (kSlice kTag) l1)) (ja R)) ?_))
  refine At.d R R R R (js (ja R) Tryz.underlying57) ?_
  refine At.d R R R R (jb (x:=(.tv (kInt .i64) (0:Int))) (ji _ _)) ?_
  refine At.done (At.vh (At.block ?_))
  obtain ⟨n1,hF⟩:=hF
  refine At.w [] R [(0,(.tv (kSlice kTag) l1)),(3,(.tv kStr (⟨#[]⟩:BA))),(6,(.tv (kSlice kTag) l1)),(7,(.tv (kInt .i64) (l1.length:Int))),(8,(.tv (kInt .i64) (0:Int)))] ⟨R,R,R,R,R,trivial⟩ ?_
  refine At.loop (fun m rs L=>∃ (last6:BA) (t6:Int),W.iter2 (tag_Valid.l1 l1 (tag_Valid.c1 l1)) m last6 t6 Q∧rs=[]∧L=mkL [(0,(.tv (kSlice kTag) l1)),(3,(.tv kStr last6)),(6,(.tv (kSlice kTag) l1)),(7,(.tv (kInt .i64) (l1.length:Int))),(8,(.tv (kInt .i64) t6))]) ?_ ?_ (m:=n1) ⟨(⟨#[]⟩:BA),(0:Int),hF,R,R⟩
  ·rintro rs L ⟨_,_,hF,_,_⟩;exact hF
  ·rintro m1 _ _ ⟨last6,t6,hF,rfl,rfl⟩
   replace hF:=W.iter2_s hF
   unfold tag_Valid.l1 at hF
   refine At.seq (At.region (At.d R R R R (jk (ja R) (ja R) vd) ?_))
   refine At.done (At.vh (At.seq ?_))
   refine At.cond (ja R) (fun hb9=>?_) (fun hb9=>?_)
   ·replace hF:=W.ite_t hb9 hF
    refine At.skip (At.vh (At.seq (At.block (At.seq (At.region ?_)))))
    obtain ⟨hq5,hF⟩:=hF
    refine At.d R R R R (vf zTag (ja R) (ja R) Tryz.underlying57 ty_73 hq5) ?_
    refine At.d R R R R (vq (K:=kTag) (ja R) ty_73) ?_
    refine At.f R (eff_alloc R R R tz_73) ?_
    rintro _ _ ⟨g5,rfl,rfl⟩
    refine At.f R (jx R R (ja R) 0 R (Sub.self kTag) ty_73 (ja R)) ?_
    rintro _ _ ⟨rfl,rfl⟩
    refine At.done (At.vh (At.seq (At.seq (At.region (At.d R R R R (je (ja R) fa_73_0) ?_)))))
    refine At.d R R R R (jc (ja R) 0 R sub_Tag_0 ty_9) ?_
    replace hF:=W.vm hF
    refine At.f R (jn R R jp (jq R en_81 (jf (ja R) jg)) (lexer_Name.ok hF) (by rintro _ _ ⟨r,_,rfl,_⟩;exact vl)) ?_
    rintro _ _ ⟨_,_,⟨r5,hF,rfl,rfl⟩,rfl,rfl⟩
    refine At.d R R R R (does_not (ja R)) ?_
    refine At.d R R R R (jb (x:=(.tv kBool (!r5))) (ja R)) ?_
    refine At.vj R R R R (jv R) R (fun hg45=>(je (ja R) fa_73_0)) ?_
    refine At.vj R R R R (jv R) R (fun hg46=>(jc (jh R hg46) 0 R sub_Tag_0 ty_9)) ?_
    refine At.vj R R R R (jv R) R (fun hg47=>(jb (x:=(.tv kStr last6)) (ja R))) ?_
    refine At.vj R R R R (jv R) R (fun hg48=>(jk (jh R hg48) (jh R hg48) bin_sleq)) ?_
    refine At.d R R R R (jm (ja R) (jl _) (ja R) pick_or) ?_
    refine At.d R R R R (jb (x:=(.tv kBool ((!r5)||(sLt ((rd zTag l1 t6).Key) last6||sEq ((rd zTag l1 t6).Key) last6)))) (ja R)) ?_
    refine At.vj R R R R (jv R) R (fun hg49=>(je (ja R) fa_73_1)) ?_
    refine At.vj R R R R (jv R) R (fun hg50=>(jc (jh R hg50) 0 R sub_Tag_1 ty_9)) ?_
    refine At.vj R R R R (jv R) R (fun hg51=>(jk (jh R hg51) (vg _) bin_seql)) ?_
    refine At.d R R R R (jm (ja R) (jl _) (ja R) pick_or) ?_
    refine At.d R R R R (jb (x:=(.tv kBool (((!r5)||(sLt ((rd zTag l1 t6).Key) last6||sEq ((rd zTag l1 t6).Key) last6))||(sEq ((rd zTag l1 t6).Value) (⟨#[]⟩:BA))))) (ja R)) ?_
    refine At.vj R R R R (jv R) R (fun hg52=>(je (ja R) fa_73_1)) ?_
    refine At.vj R R R R (jv R) R (fun hg53=>(jc (jh R hg53) 0 R sub_Tag_1 ty_9)) ?_
    refine At.vj R R R R (jv R) R (fun hg54=>(does_len_str (jh R hg54) Tryz.underlying9)) ?_
    refine At.vj R R R R (jv R) R (fun hg55=>(jk (jh R hg55) (ji _ _) bin_gtr)) ?_
    refine At.d R R R R (jm (ja R) (jl _) (ja R) pick_or) ?_
    refine At.done (At.vh ?_)
    refine At.cond (ja R) (fun hb10=>?_) (fun hb10=>?_)
    ·replace hF:=W.ite_t hb10 hF
     refine At.seq (At.region (At.d R R R R (jd (x:=(.tv kBool false)) (jl _)) ?_))
     refine At.done (At.vh (At.ret (At.vi ?_)))
     refine At.q ?_
     refine At.vi (At.vi ?_)
     refine At.q ?_
     refine At.vi ?_
     exact At.j rfl (rv_tmp rfl) [] rfl ⟨false,hF,rfl,rfl⟩
    ·replace hF:=W.ite_f hb10 hF
     refine At.skip (At.vh (At.region (At.d R R R R (je (ja R) fa_73_0) ?_)))
     refine At.d R R R R (jc (ja R) 0 R sub_Tag_0 ty_9) ?_
     refine At.d R R R R (jd (x:=(.tv kStr ((rd zTag l1 t6).Key))) (ja R)) ?_
     refine At.done ?_
     refine At.n ?_
     refine At.vh (At.region (At.d R R R R (jk (ja R) (ji _ _) vc) ?_))
     refine At.d R R R R (jb (x:=(.tv (kInt .i64) (w64 (t6+(1:Int))))) (ja R)) ?_
     refine At.done (At.vh ?_)
     refine At.w [] R [(0,(.tv (kSlice kTag) l1)),(3,(.tv kStr ((rd zTag l1 t6).Key))),(6,(.tv (kSlice kTag) l1)),(7,(.tv (kInt .i64) (l1.length:Int))),(8,(.tv (kInt .i64) (w64 (t6+(1:Int)))))] ⟨R,R,R,R,R,trivial⟩ (At.r ⟨(rd zTag l1 t6).Key,(w64 (t6+(1:Int))),hF,R,R⟩)
   ·replace hF:=W.ite_f hb9 hF
    refine At.exit ?_
    refine At.x (At.x ?_)
    refine At.h ?_
    refine At.vh ?_
    refine At.w [] R [(0,(.tv (kSlice kTag) l1))] ⟨R,trivial⟩ (At.r ⟨(),hF,R,R⟩)
 ·rintro _ _ ⟨_,hF,rfl,rfl⟩
  unfold tag_Valid.c1 at hF
  refine At.seq (At.region (At.d R R R R (jb (x:=(.tv (kSlice kTag) l1)) (ja R)) ?_))
  refine At.d R R R R (js (ja R) Tryz.underlying57) ?_
  refine At.d R R R R (jk (ja R) (ji _ _) bin_leq) ?_
  refine At.d R R R R (jd (x:=(.tv kBool (decide ((l1.length:Int)≤(60:Int))))) (ja R)) ?_
  refine At.done (At.vh (At.ret ?_))
  exact At.j rfl (rv_tmp rfl) [] rfl ⟨(decide ((l1.length:Int)≤(60:Int))),hF,rfl,rfl⟩
def object_Valid.F (o1:Object):W Bool:=W.bind (object_word.F o1.Kind) (fun r1=>W.bind (W.ite (!(sEq r1 (⟨#[]⟩:BA))) (lexer_Name.F o1.Id) (W.ret false)) (fun r2=>W.bind (W.ite (!((sEq r1 (⟨#[]⟩:BA))||(!r2))) (tag_Valid.F o1.Tags) (W.ret false)) (fun r3=>W.bind (W.ite (!(((sEq r1 (⟨#[]⟩:BA))||(!r2))||(!r3))) (object_least.F o1.Kind) (W.ret (0:Int))) (fun r4=>W.ite (((((sEq r1 (⟨#[]⟩:BA))||(!r2))||(!r3))||(decide ((o1.Refs.length:Int)<r4)))||(decide ((2000:Int)<(o1.Refs.length:Int)))) (W.ret false) (W.bind (Jg.F o1.Refs o1 (⟨#[]⟩:BA) ([]:(List (BA×Bool)))) (fun r5=>W.ite r5.1 (W.ret false) (W.ite (o1.Kind==(1:Int)) (W.bind (W.ite ((o1.Refs.length:Int)==(0:Int)) (object_on.F o1.At) (W.ret false)) (fun r6=>W.ret (((o1.Refs.length:Int)==(0:Int))&&r6))) (W.ite (o1.Kind==(5:Int)) (W.ret (((o1.Refs.length:Int)==(3:Int))&&(eq_Point o1.At (⟨(0:Int),(0:Int)⟩:Point)))) (W.ret (eq_Point o1.At (⟨(0:Int),(0:Int)⟩:Point)))))))))))
theorem object_Valid.ok {o1:Object} {Q:Bool→Prop} (hF:object_Valid.F o1 Q):Con Tryz.prog 50 [.tv kObject o1] [] (fun ta rs'=>∃ (r:Bool),Q r∧ta=.tv kBool r∧rs'=[]):=by
 refine Con.i Tryz.func50 Tryz.ntmps50 R R (fun C=>?_)
 unfold object_Valid.F at hF
 refine At.seq (At.region (At.f R (jw R R R (ja R)) ?_))
 rintro _ _ ⟨g1,rfl,rfl⟩
 refine At.d R R R R (jd (x:=(.tv kBool false)) (jl _)) ?_
 refine At.done (At.vh (At.seq (At.seq ?_)))
 refine At.draw mixed [0] R [[]] (fun φ w hgd=>?_)
 replace hF:=W.vm hF
 refine AtH.take [0] hgd 0 R R R R (D':=#[Y,N,N,N,N,N,N,N,N,N,N,N,N,N,N,N,N,N,N,N,N,N,N,N,N,N,N,N,N,N,N]) (by kernel_rfl) (fun _ _ _ _ h=>h) R (je (ja R) fa_59_1) ?_
 refine AtH.take [0] hgd 1 R R R R (D':=#[Y,Y,N,N,N,N,N,N,N,N,N,N,N,N,N,N,N,N,N,N,N,N,N,N,N,N,N,N,N,N,N]) (by kernel_rfl) (fun _ _ _ _ h=>h) R (jc (ja R) 0 R sub_Object_1 ty_3) ?_
 refine AtH.all1 2 (by kernel_rfl) ?_
 refine AtH.f [(0,0)] R R R R R R (jn R R jp (jq R en_80 (jf (ja R) jg)) (object_word.ok hF) (by rintro _ _ ⟨r,_,rfl,_⟩;exact flat_str)) (D':=#[Y,Y,Y,N,N,N,N,N,N,N,N,N,N,N,N,N,N,N,N,N,N,N,N,N,N,N,N,N,N,N,N]) (by kernel_rfl) (by kernel_rfl) ?_
 rintro _ _ ⟨_,_,⟨r1,hF,rfl,rfl⟩,rfl,rfl⟩
 refine ⟨_,.inr ⟨R,flat_str⟩,?_⟩
 replace hF:=W.vm hF
 refine AtH.take [0] hgd 3 R R R R (D':=#[Y,Y,Y,Y,N,N,N,N,N,N,N,N,N,N,N,N,N,N,N,N,N,N,N,N,N,N,N,N,N,N,N]) (by kernel_rfl) (fun _ _ _ _ h=>h) R (jk (ja R) (vg _) bin_seql) ?_
 refine AtH.take [0] hgd 4 R R R R (D':=#[Y,Y,Y,Y,Y,N,N,N,N,N,N,N,N,N,N,N,N,N,N,N,N,N,N,N,N,N,N,N,N,N,N]) (by kernel_rfl) (fun _ _ _ _ h=>h) R (jb (x:=(.tv kBool (sEq r1 (⟨#[]⟩:BA)))) (ja R)) ?_
 refine AtH.vk [0] hgd 5 R R R (jv R) R R (D':=#[Y,Y,Y,Y,Y,Y,N,N,N,N,N,N,N,N,N,N,N,N,N,N,N,N,N,N,N,N,N,N,N,N,N]) (by kernel_rfl) (fun _ _ _ _ h=>h) R (fun hg17=>(je (ja R) fa_59_0)) ?_
 refine AtH.vk [0] hgd 6 R R R (jv R) R R (D':=#[Y,Y,Y,Y,Y,Y,Y,N,N,N,N,N,N,N,N,N,N,N,N,N,N,N,N,N,N,N,N,N,N,N,N]) (by kernel_rfl) (fun _ _ _ _ h=>h) R (fun hg18=>(jc (jh R hg18) 0 R sub_Object_0 ty_9)) ?_
 refine AtH.all1 7 (by kernel_rfl) ?_
 refine AtH.effG [(0,0)] R R R R R R R (jv R) (D':=#[Y,Y,Y,Y,Y,Y,Y,Y,N,N,N,N,N,N,N,N,N,N,N,N,N,N,N,N,N,N,N,N,N,N,N]) (by kernel_rfl) (by kernel_rfl) hF (fun r=>.tv kBool r) (fun _=>vl) (fun hg19 hF=>eff_of (jn R R jp (jq R en_81 (jf (jh R hg19) jg)) (lexer_Name.ok hF) (by rintro _ _ ⟨r,_,rfl,_⟩;exact vl)) (by rintro _ _ ⟨_,_,⟨r,hF,rfl,rfl⟩,rfl,rfl⟩;exact ⟨r,hF,R,R⟩)) (fun r2 hF=>?_)
 replace hF:=W.vm hF
 refine AtH.vk [0] hgd 8 R R R (jv R) R R (D':=#[Y,Y,Y,Y,Y,Y,Y,Y,Y,N,N,N,N,N,N,N,N,N,N,N,N,N,N,N,N,N,N,N,N,N,N]) (by kernel_rfl) (fun _ _ _ _ h=>h) R (fun hg20=>(does_not (jh R hg20))) ?_
 refine AtH.take [0] hgd 9 R R R R (D':=#[Y,Y,Y,Y,Y,Y,Y,Y,Y,Y,N,N,N,N,N,N,N,N,N,N,N,N,N,N,N,N,N,N,N,N,N]) (by kernel_rfl) (fun _ _ _ _ h=>h) R (jm (ja R) (jl _) (ja R) pick_or) ?_
 refine AtH.take [0] hgd 10 R R R R (D':=#[Y,Y,Y,Y,Y,Y,Y,Y,Y,Y,Y,N,N,N,N,N,N,N,N,N,N,N,N,N,N,N,N,N,N,N,N]) (by kernel_rfl) (fun _ _ _ _ h=>h) R (jb (x:=(.tv kBool ((sEq r1 (⟨#[]⟩:BA))||(!r2)))) (ja R)) ?_
 refine AtH.vk [0] hgd 11 R R R (jv R) R R (D':=#[Y,Y,Y,Y,Y,Y,Y,Y,Y,Y,Y,Y,N,N,N,N,N,N,N,N,N,N,N,N,N,N,N,N,N,N,N]) (by kernel_rfl) (fun _ _ _ _ h=>h) R (fun hg21=>(je (ja R) fa_59_4)) ?_
 refine AtH.vk [0] hgd 12 R R R (jv R) R R (D':=#[Y,Y,Y,Y,Y,Y,Y,Y,Y,Y,Y,Y,Y,N,N,N,N,N,N,N,N,N,N,N,N,N,N,N,N,N,N]) (by kernel_rfl) (fun _ _ _ _ h=>h) R (fun hg22=>(jc (jh R hg22) 0 R sub_Object_4 ty_57)) ?_
 refine AtH.all1 13 (by kernel_rfl) ?_
 refine AtH.effG [(0,0)] R R R R R R R (jv R) (D':=#[Y,Y,Y,Y,Y,Y,Y,Y,Y,Y,Y,Y,Y,Y,N,N,N,N,N,N,N,N,N,N,N,N,N,N,N,N,N]) (by kernel_rfl) (by kernel_rfl) hF (fun r=>.tv kBool r) (fun _=>vl) (fun hg23 hF=>eff_of (jn R R jp (jq R en_82 (jf (jh R hg23) jg)) (tag_Valid.ok hF) (by rintro _ _ ⟨r,_,rfl,_⟩;exact vl)) (by rintro _ _ ⟨_,_,⟨r,hF,rfl,rfl⟩,rfl,rfl⟩;exact ⟨r,hF,R,R⟩)) (fun r3 hF=>?_)
 replace hF:=W.vm hF
 refine AtH.vk [0] hgd 14 R R R (jv R) R R (D':=#[Y,Y,Y,Y,Y,Y,Y,Y,Y,Y,Y,Y,Y,Y,Y,N,N,N,N,N,N,N,N,N,N,N,N,N,N,N,N]) (by kernel_rfl) (fun _ _ _ _ h=>h) R (fun hg24=>(does_not (jh R hg24))) ?_
 refine AtH.take [0] hgd 15 R R R R (D':=#[Y,Y,Y,Y,Y,Y,Y,Y,Y,Y,Y,Y,Y,Y,Y,Y,N,N,N,N,N,N,N,N,N,N,N,N,N,N,N]) (by kernel_rfl) (fun _ _ _ _ h=>h) R (jm (ja R) (jl _) (ja R) pick_or) ?_
 refine AtH.take [0] hgd 16 R R R R (D':=#[Y,Y,Y,Y,Y,Y,Y,Y,Y,Y,Y,Y,Y,Y,Y,Y,Y,N,N,N,N,N,N,N,N,N,N,N,N,N,N]) (by kernel_rfl) (fun _ _ _ _ h=>h) R (jb (x:=(.tv kBool (((sEq r1 (⟨#[]⟩:BA))||(!r2))||(!r3)))) (ja R)) ?_
 refine AtH.vk [0] hgd 17 R R R (jv R) R R (D':=#[Y,Y,Y,Y,Y,Y,Y,Y,Y,Y,Y,Y,Y,Y,Y,Y,Y,Y,N,N,N,N,N,N,N,N,N,N,N,N,N]) (by kernel_rfl) (fun _ _ _ _ h=>h) R (fun hg25=>(je (ja R) fa_59_3)) ?_
 refine AtH.vk [0] hgd 18 R R R (jv R) R R (D':=#[Y,Y,Y,Y,Y,Y,Y,Y,Y,Y,Y,Y,Y,Y,Y,Y,Y,Y,Y,N,N,N,N,N,N,N,N,N,N,N,N]) (by kernel_rfl) (fun _ _ _ _ h=>h) R (fun hg26=>(jc (jh R hg26) 0 R sub_Object_3 ty_41)) ?_
 refine AtH.vk [0] hgd 19 R R R (jv R) R R (D':=#[Y,Y,Y,Y,Y,Y,Y,Y,Y,Y,Y,Y,Y,Y,Y,Y,Y,Y,Y,Y,N,N,N,N,N,N,N,N,N,N,N]) (by kernel_rfl) (fun _ _ _ _ h=>h) R (fun hg27=>(js (jh R hg27) Tryz.underlying41)) ?_
 refine AtH.vk [0] hgd 20 R R R (jv R) R R (D':=#[Y,Y,Y,Y,Y,Y,Y,Y,Y,Y,Y,Y,Y,Y,Y,Y,Y,Y,Y,Y,Y,N,N,N,N,N,N,N,N,N,N]) (by kernel_rfl) (fun _ _ _ _ h=>h) R (fun hg28=>(je (ja R) fa_59_1)) ?_
 refine AtH.vk [0] hgd 21 R R R (jv R) R R (D':=#[Y,Y,Y,Y,Y,Y,Y,Y,Y,Y,Y,Y,Y,Y,Y,Y,Y,Y,Y,Y,Y,Y,N,N,N,N,N,N,N,N,N]) (by kernel_rfl) (fun _ _ _ _ h=>h) R (fun hg29=>(jc (jh R hg29) 0 R sub_Object_1 ty_3)) ?_
 refine AtH.all1 22 (by kernel_rfl) ?_
 refine AtH.effG [(0,0)] R R R R R R R (jv R) (D':=#[Y,Y,Y,Y,Y,Y,Y,Y,Y,Y,Y,Y,Y,Y,Y,Y,Y,Y,Y,Y,Y,Y,Y,N,N,N,N,N,N,N,N]) (by kernel_rfl) (by kernel_rfl) hF (fun r=>.tv (kInt .i64) r) (fun _=>flat_int) (fun hg30 hF=>eff_of (jn R R jp (jq R en_83 (jf (jh R hg30) jg)) (object_least.ok hF) (by rintro _ _ ⟨r,_,rfl,_⟩;exact flat_int)) (by rintro _ _ ⟨_,_,⟨r,hF,rfl,rfl⟩,rfl,rfl⟩;exact ⟨r,hF,R,R⟩)) (fun r4 hF=>?_)
 refine AtH.vk [0] hgd 23 R R R (jv R) R R (D':=#[Y,Y,Y,Y,Y,Y,Y,Y,Y,Y,Y,Y,Y,Y,Y,Y,Y,Y,Y,Y,Y,Y,Y,Y,N,N,N,N,N,N,N]) (by kernel_rfl) (fun _ _ _ _ h=>h) R (fun hg31=>(jk (jh R hg31) (jh R hg31) vd)) ?_
 refine AtH.take [0] hgd 24 R R R R (D':=#[Y,Y,Y,Y,Y,Y,Y,Y,Y,Y,Y,Y,Y,Y,Y,Y,Y,Y,Y,Y,Y,Y,Y,Y,Y,N,N,N,N,N,N]) (by kernel_rfl) (fun _ _ _ _ h=>h) R (jm (ja R) (jl _) (ja R) pick_or) ?_
 refine AtH.take [0] hgd 25 R R R R (D':=#[Y,Y,Y,Y,Y,Y,Y,Y,Y,Y,Y,Y,Y,Y,Y,Y,Y,Y,Y,Y,Y,Y,Y,Y,Y,Y,N,N,N,N,N]) (by kernel_rfl) (fun _ _ _ _ h=>h) R (jb (x:=(.tv kBool ((((sEq r1 (⟨#[]⟩:BA))||(!r2))||(!r3))||(decide ((o1.Refs.length:Int)<r4))))) (ja R)) ?_
 refine AtH.vk [0] hgd 26 R R R (jv R) R R (D':=#[Y,Y,Y,Y,Y,Y,Y,Y,Y,Y,Y,Y,Y,Y,Y,Y,Y,Y,Y,Y,Y,Y,Y,Y,Y,Y,Y,N,N,N,N]) (by kernel_rfl) (fun _ _ _ _ h=>h) R (fun hg32=>(je (ja R) fa_59_3)) ?_
 refine AtH.vk [0] hgd 27 R R R (jv R) R R (D':=#[Y,Y,Y,Y,Y,Y,Y,Y,Y,Y,Y,Y,Y,Y,Y,Y,Y,Y,Y,Y,Y,Y,Y,Y,Y,Y,Y,Y,N,N,N]) (by kernel_rfl) (fun _ _ _ _ h=>h) R (fun hg33=>(jc (jh R hg33) 0 R sub_Object_3 ty_41)) ?_
 refine AtH.vk [0] hgd 28 R R R (jv R) R R (D':=#[Y,Y,Y,Y,Y,Y,Y,Y,Y,Y,Y,Y,Y,Y,Y,Y,Y,Y,Y,Y,Y,Y,Y,Y,Y,Y,Y,Y,Y,N,N]) (by kernel_rfl) (fun _ _ _ _ h=>h) R (fun hg34=>(js (jh R hg34) Tryz.underlying41)) ?_
 refine AtH.vk [0] hgd 29 R R R (jv R) R R (D':=#[Y,Y,Y,Y,Y,Y,Y,Y,Y,Y,Y,Y,Y,Y,Y,Y,Y,Y,Y,Y,Y,Y,Y,Y,Y,Y,Y,Y,Y,Y,N]) (by kernel_rfl) (fun _ _ _ _ h=>h) R (fun hg35=>(jk (jh R hg35) (ji _ _) bin_gtr)) ?_
 refine AtH.take [0] hgd 30 R R R R (D':=#[Y,Y,Y,Y,Y,Y,Y,Y,Y,Y,Y,Y,Y,Y,Y,Y,Y,Y,Y,Y,Y,Y,Y,Y,Y,Y,Y,Y,Y,Y,Y]) (by kernel_rfl) (fun _ _ _ _ h=>h) R (jm (ja R) (jl _) (ja R) pick_or) ?_
 refine AtH.done (by kernel_rfl) ?_
 refine At.vh ?_
 refine At.cond (ja R) (fun hb1=>?_) (fun hb1=>?_)
 ·replace hF:=W.ite_t hb1 hF
  refine At.seq (At.region (At.d R R R R (jd (x:=(.tv kBool false)) (jl _)) ?_))
  refine At.done (At.vh (At.ret (At.vi ?_)))
  exact At.j rfl (rv_tmp rfl) [] rfl ⟨false,hF,rfl,rfl⟩
 ·replace hF:=W.ite_f hb1 hF
  refine At.skip (At.vh (At.seq (At.region (At.f R (eff_makeMap R R R kStr kBool) ?_))))
  rintro _ _ ⟨g2,rfl,rfl⟩
  refine At.f R (eff_alloc R R R tz_56) ?_
  rintro _ _ ⟨g3,rfl,rfl⟩
  refine At.f R (eff_store_swap (K':=kRaw) (x':=(.map (some g2))) R R (ja R) 0 R (Swap.whole R) tyr_56 (opd_raw (ja R) R)) ?_
  rintro _ _ ⟨rfl,rfl⟩
  refine At.done (At.vh (At.seq (At.region (At.f R (eff_alloc R R R tz_9) ?_))))
  rintro _ _ ⟨g4,rfl,rfl⟩
  refine At.f R (jx R R (ja R) 0 R (Sub.self kStr) ty_9 (vg _)) ?_
  rintro _ _ ⟨rfl,rfl⟩
  refine At.done (At.vh (At.seq (At.region (At.d R R R R (does_cls (firsts:=[]) (caps:=[.tmp 1,.tmp 4,.tmp 3]) R (jf (ja R) (jf (ja R) (jf (ja R) jg)))) ?_))))
  refine At.d R R R R (jd (x:=(.cls 84 0 (tupl [(.eq (.pointer (some ⟨g1,0,none⟩))),(.eq (.pointer (some ⟨g4,0,none⟩))),(.eq (.pointer (some ⟨g3,0,none⟩)))]))) (ja R)) ?_
  refine At.done (At.vh (At.seq (At.seq (At.region (At.d R R R R (je (ja R) fa_59_3) ?_)))))
  refine At.d R R R R (jc (ja R) 3 R sub_Object_3 ty_41) ?_
  refine At.d R R R R (jb (x:=(.cls 84 0 (tupl [(.eq (.pointer (some ⟨g1,0,none⟩))),(.eq (.pointer (some ⟨g4,0,none⟩))),(.eq (.pointer (some ⟨g3,0,none⟩)))]))) (ja R)) ?_
  replace hF:=W.vm hF
  refine At.f R (jo R R (jq R en_85 (jf (ja R) (jf (ja R) jg))) [3,0,1,2] R (Jg.ok hF)) ?_
  rintro _ _ ⟨_,_,⟨r5,hF,rfl,rfl⟩,rfl,rfl⟩
  refine At.done (At.vh ?_)
  refine At.cond (ja R) (fun hb2=>?_) (fun hb2=>?_)
  ·replace hF:=W.ite_t hb2 hF
   refine At.seq (At.region (At.d R R R R (jd (x:=(.tv kBool false)) (jl _)) ?_))
   refine At.done (At.vh (At.ret (At.vi ?_)))
   exact At.j rfl (rv_tmp rfl) [] rfl ⟨false,hF,rfl,rfl⟩
  ·replace hF:=W.ite_f hb2 hF
   refine At.skip (At.vh (At.seq (At.seq (At.region (At.d R R R R (je (ja R) fa_59_1) ?_)))))
   refine At.d R R R R (jc (ja R) 0 R sub_Object_1 ty_3) ?_
   refine At.done (At.vh (At.block (At.seq (At.region (At.d R R R R (jk (ja R) (ji _ _) bin_eql) ?_)))))
   refine At.d R R R R (jd (x:=(.tv kBool (o1.Kind==(1:Int)))) (ja R)) ?_
   refine At.done (At.vh ?_)
   refine At.cond (ja R) (fun hb3=>?_) (fun hb3=>?_)
   ·replace hF:=W.ite_t hb3 hF
    refine At.seq (At.region (At.d R R R R (je (ja R) fa_59_3) ?_))
    refine At.d R R R R (jc (ja R) 0 R sub_Object_3 ty_41) ?_
    refine At.d R R R R (js (ja R) Tryz.underlying41) ?_
    refine At.d R R R R (jk (ja R) (ji _ _) bin_eql) ?_
    refine At.d R R R R (jb (x:=(.tv kBool ((o1.Refs.length:Int)==(0:Int)))) (ja R)) ?_
    refine At.vj R R R R (ju R) R (fun hg36=>(je (ja R) fa_59_2)) ?_
    refine At.vj R R R R (ju R) R (fun hg37=>(jc (jh R hg37) 0 R sub_Object_2 ty_37)) ?_
    replace hF:=W.vm hF
    refine At.effG R R R R (ju R) hF (fun r=>.tv kBool r) (fun hg38 hF=>eff_of (jn R R jp (jq R en_86 (jf (jh R hg38) jg)) (object_on.ok hF) (by rintro _ _ ⟨r,_,rfl,_⟩;exact vl)) (by rintro _ _ ⟨_,_,⟨r,hF,rfl,rfl⟩,rfl,rfl⟩;exact ⟨r,hF,R,R⟩)) (fun r6 hF=>?_)
    refine At.d R R R R (jm (ja R) (ja R) (jl _) ve) ?_
    refine At.d R R R R (jd (x:=(.tv kBool (((o1.Refs.length:Int)==(0:Int))&&r6))) (ja R)) ?_
    refine At.done (At.vh (At.ret ?_))
    refine At.q ?_
    refine At.vi ?_
    exact At.j rfl (rv_tmp rfl) [] rfl ⟨(((o1.Refs.length:Int)==(0:Int))&&r6),hF,rfl,rfl⟩
   ·replace hF:=W.ite_f hb3 hF
    refine At.seq (At.region (At.d R R R R (jk (ja R) (ji _ _) bin_eql) ?_))
    refine At.d R R R R (jd (x:=(.tv kBool (o1.Kind==(5:Int)))) (ja R)) ?_
    refine At.done (At.vh ?_)
    refine At.cond (ja R) (fun hb4=>?_) (fun hb4=>?_)
    ·replace hF:=W.ite_t hb4 hF
     refine At.seq (At.region (At.d R R R R (je (ja R) fa_59_3) ?_))
     refine At.d R R R R (jc (ja R) 0 R sub_Object_3 ty_41) ?_
     refine At.d R R R R (js (ja R) Tryz.underlying41) ?_
     refine At.d R R R R (jk (ja R) (ji _ _) bin_eql) ?_
     refine At.d R R R R (jb (x:=(.tv kBool ((o1.Refs.length:Int)==(3:Int)))) (ja R)) ?_
     refine At.vj R R R R (ju R) R (fun hg39=>(je (ja R) fa_59_2)) ?_
     refine At.vj R R R R (ju R) R (fun hg40=>(jc (jh R hg40) 0 R sub_Object_2 ty_37)) ?_
     refine At.vj R R R R (ju R) R (fun hg41=>(jz parts_nil zr_37 bd_37 R fills_nil)) ?_
     refine At.vj R R R R (ju R) R (fun hg42=>(jk (jh R hg42) (jh R hg42) (bin_eq eqty_37))) ?_
     refine At.d R R R R (jm (ja R) (ja R) (jl _) ve) ?_
     refine At.d R R R R (jd (x:=(.tv kBool (((o1.Refs.length:Int)==(3:Int))&&(eq_Point o1.At (⟨(0:Int),(0:Int)⟩:Point))))) (ja R)) ?_
     refine At.done (At.vh (At.ret ?_))
     refine At.q ?_
     refine At.vi ?_
     exact At.j rfl (rv_tmp rfl) [] rfl ⟨(((o1.Refs.length:Int)==(3:Int))&&(eq_Point o1.At (⟨(0:Int),(0:Int)⟩:Point))),hF,rfl,rfl⟩
    ·replace hF:=W.ite_f hb4 hF
     refine At.skip ?_
     refine At.n ?_
     refine At.vh (At.seq (At.region (At.d R R R R (je (ja R) fa_59_2) ?_)))
     refine At.d R R R R (jc (ja R) 0 R sub_Object_2 ty_37) ?_
     refine At.d R R R R (jz parts_nil zr_37 bd_37 R fills_nil) ?_
     refine At.d R R R R (jk (ja R) (ja R) (bin_eq eqty_37)) ?_
     refine At.d R R R R (jd (x:=(.tv kBool (eq_Point o1.At (⟨(0:Int),(0:Int)⟩:Point)))) (ja R)) ?_
     refine At.done (At.vh (At.ret ?_))
     exact At.j rfl (rv_tmp rfl) [] rfl ⟨(eq_Point o1.At (⟨(0:Int),(0:Int)⟩:Point)),hF,rfl,rfl⟩
def atlas_Valid.c1 (m1:Map):W Bool:=W.ret (decide ((m1.Objects.length:Int)≤(1000000:Int)))
def atlas_Valid.l1 (m1:Map) (K1:W Bool) (A1:BA→Int→W Bool) (last6:BA) (t6:Int):W Bool:=W.ite (decide (t6<(m1.Objects.length:Int))) (W.req (0≤t6∧t6<(m1.Objects.length:Int)) (W.bind (object_Valid.F (rd zObject m1.Objects t6)) (fun r5=>W.ite ((!r5)||(sLt ((rd zObject m1.Objects t6).Id) last6||sEq ((rd zObject m1.Objects t6).Id) last6)) (W.ret false) (A1 ((rd zObject m1.Objects t6).Id) (w64 (t6+(1:Int))))))) (K1)
def atlas_Valid.F (m1:Map):W Bool:=W.ex fun n=>W.iter2 (atlas_Valid.l1 m1 (atlas_Valid.c1 m1)) n (⟨#[]⟩:BA) (0:Int)
theorem atlas_Valid.ok {m1:Map} {Q:Bool→Prop} (hF:atlas_Valid.F m1 Q):Con Tryz.prog 20 [.tv kMap m1] [] (fun ta rs'=>∃ (r:Bool),Q r∧ta=.tv kBool r∧rs'=[]):=by
 refine Con.i Tryz.func20 Tryz.ntmps20 R R (fun C=>?_)
 unfold atlas_Valid.F at hF
 refine At.seq (At.region (At.f R (jw R R R (ja R)) ?_))
 rintro _ _ ⟨g1,rfl,rfl⟩
 refine At.d R R R R (jd (x:=(.tv kBool false)) (jl _)) ?_
 refine At.done (At.vh (At.seq (At.region (At.d R R R R (jd (x:=(.tv kStr (⟨#[]⟩:BA))) (vg _)) ?_))))
 refine At.done (At.vh ?_)
 refine At.cut (fun rs L=>∃ _:Unit,atlas_Valid.c1 m1 Q∧rs=[.box g1 24 kMap m1]∧L=mkL [(1,(.eq (.pointer (some ⟨g1,0,none⟩))))]) ?_ ?_
 ·refine At.seq (At.region (At.d R R R R (je (ja R) fa_24_0) ?_))
  refine At.d R R R R (jc (ja R) 0 R sub_Map_0 ty_22) ?_
  refine At.d R R R R (js (ja R) Tryz.underlying22) ?_
  refine At.d R R R R (jb (x:=(.tv (kInt .i64) (0:Int))) (ji _ _)) ?_
  refine At.done (At.vh (At.block ?_))
  obtain ⟨n1,hF⟩:=hF
  refine At.w [0] R [(1,(.eq (.pointer (some ⟨g1,0,none⟩)))),(3,(.tv kStr (⟨#[]⟩:BA))),(7,(.tv (kSlice kObject) m1.Objects)),(8,(.tv (kInt .i64) (m1.Objects.length:Int))),(9,(.tv (kInt .i64) (0:Int)))] ⟨R,R,R,R,R,trivial⟩ ?_
  refine At.loop (fun m rs L=>∃ (last6:BA) (t6:Int),W.iter2 (atlas_Valid.l1 m1 (atlas_Valid.c1 m1)) m last6 t6 Q∧rs=[.box g1 24 kMap m1]∧L=mkL [(1,(.eq (.pointer (some ⟨g1,0,none⟩)))),(3,(.tv kStr last6)),(7,(.tv (kSlice kObject) m1.Objects)),(8,(.tv (kInt .i64) (m1.Objects.length:Int))),(9,(.tv (kInt .i64) t6))]) ?_ ?_ (m:=n1) ⟨(⟨#[]⟩:BA),(0:Int),hF,R,R⟩
  ·rintro rs L ⟨_,_,hF,_,_⟩;exact hF
  ·rintro m2 _ _ ⟨last6,t6,hF,rfl,rfl⟩
   replace hF:=W.iter2_s hF
   unfold atlas_Valid.l1 at hF
   refine At.seq (At.region (At.d R R R R (jk (ja R) (ja R) vd) ?_))
   refine At.done (At.vh (At.seq ?_))
   refine At.cond (ja R) (fun hb9=>?_) (fun hb9=>?_)
   ·replace hF:=W.ite_t hb9 hF
    refine At.skip (At.vh (At.seq (At.block (At.seq (At.region ?_)))))
    obtain ⟨hq5,hF⟩:=hF
    refine At.d R R R R (vf zObject (ja R) (ja R) Tryz.underlying22 ty_59 hq5) ?_
    refine At.d R R R R (vq (K:=kObject) (ja R) ty_59) ?_
    refine At.f R (eff_alloc R R R tz_59) ?_
    rintro _ _ ⟨g6,rfl,rfl⟩
    refine At.f R (jx R R (ja R) 0 R (Sub.self kObject) ty_59 (ja R)) ?_
    rintro _ _ ⟨rfl,rfl⟩
    refine At.done (At.vh (At.seq (At.seq (At.region (At.d R R R R (jc (ja R) 0 R (Sub.self kObject) ty_59) ?_)))))
    replace hF:=W.vm hF
    refine At.f R (jn R R jp (jq R en_50 (jf (ja R) jg)) (object_Valid.ok hF) (by rintro _ _ ⟨r,_,rfl,_⟩;exact vl)) ?_
    rintro _ _ ⟨_,_,⟨r5,hF,rfl,rfl⟩,rfl,rfl⟩
    refine At.d R R R R (does_not (ja R)) ?_
    refine At.d R R R R (jb (x:=(.tv kBool (!r5))) (ja R)) ?_
    refine At.vj R R R R (jv R) R (fun hg17=>(je (ja R) fa_59_0)) ?_
    refine At.vj R R R R (jv R) R (fun hg18=>(jc (jh R hg18) 0 R sub_Object_0 ty_9)) ?_
    refine At.vj R R R R (jv R) R (fun hg19=>(jb (x:=(.tv kStr last6)) (ja R))) ?_
    refine At.vj R R R R (jv R) R (fun hg20=>(jk (jh R hg20) (jh R hg20) bin_sleq)) ?_
    refine At.d R R R R (jm (ja R) (jl _) (ja R) pick_or) ?_
    refine At.done (At.vh ?_)
    refine At.cond (ja R) (fun hb10=>?_) (fun hb10=>?_)
    ·replace hF:=W.ite_t hb10 hF
     refine At.seq (At.region (At.d R R R R (jd (x:=(.tv kBool false)) (jl _)) ?_))
     refine At.done (At.vh (At.ret (At.vi ?_)))
     refine At.q ?_
     refine At.vi (At.vi ?_)
     refine At.q ?_
     refine At.vi ?_
     exact At.j rfl (rv_tmp rfl) [] rfl ⟨false,hF,rfl,rfl⟩
    ·replace hF:=W.ite_f hb10 hF
     refine At.skip (At.vh (At.region (At.d R R R R (je (ja R) fa_59_0) ?_)))
     refine At.d R R R R (jc (ja R) 0 R sub_Object_0 ty_9) ?_
     refine At.d R R R R (jd (x:=(.tv kStr ((rd zObject m1.Objects t6).Id))) (ja R)) ?_
     refine At.done ?_
     refine At.n ?_
     refine At.vh (At.region (At.d R R R R (jk (ja R) (ji _ _) vc) ?_))
     refine At.d R R R R (jb (x:=(.tv (kInt .i64) (w64 (t6+(1:Int))))) (ja R)) ?_
     refine At.done (At.vh ?_)
     refine At.w [1] R [(1,(.eq (.pointer (some ⟨g1,0,none⟩)))),(3,(.tv kStr ((rd zObject m1.Objects t6).Id))),(7,(.tv (kSlice kObject) m1.Objects)),(8,(.tv (kInt .i64) (m1.Objects.length:Int))),(9,(.tv (kInt .i64) (w64 (t6+(1:Int)))))] ⟨R,R,R,R,R,trivial⟩ (At.r ⟨(rd zObject m1.Objects t6).Id,(w64 (t6+(1:Int))),hF,R,R⟩)
   ·replace hF:=W.ite_f hb9 hF
    refine At.exit ?_
    refine At.x (At.x ?_)
    refine At.h ?_
    refine At.vh ?_
    refine At.w [0] R [(1,(.eq (.pointer (some ⟨g1,0,none⟩))))] ⟨R,trivial⟩ (At.r ⟨(),hF,R,R⟩)
 ·rintro _ _ ⟨_,hF,rfl,rfl⟩
  unfold atlas_Valid.c1 at hF
  refine At.seq (At.region (At.d R R R R (je (ja R) fa_24_0) ?_))
  refine At.d R R R R (jc (ja R) 0 R sub_Map_0 ty_22) ?_
  refine At.d R R R R (js (ja R) Tryz.underlying22) ?_
  refine At.d R R R R (jk (ja R) (ji _ _) bin_leq) ?_
  refine At.d R R R R (jd (x:=(.tv kBool (decide ((m1.Objects.length:Int)≤(1000000:Int))))) (ja R)) ?_
  refine At.done (At.vh (At.ret ?_))
  exact At.j rfl (rv_tmp rfl) [] rfl ⟨(decide ((m1.Objects.length:Int)≤(1000000:Int))),hF,rfl,rfl⟩
def border_of.c1 (m1:Map) (x4:(List (BA×Int))):W (border_parcel×Bool):=W.ret (({ (⟨m1,([]:List (BA×Int))⟩:border_parcel) with at_:=x4 }:border_parcel),true)
def border_of.l1 (m1:Map) (K1:(List (BA×Int))→W (border_parcel×Bool)) (A1:(List (BA×Int))→Int→W (border_parcel×Bool)) (x7:(List (BA×Int))) (t6:Int):W (border_parcel×Bool):=W.ite (decide (t6<(m1.Objects.length:Int))) (W.req (0≤t6∧t6<(m1.Objects.length:Int)) (A1 (mset ((rd zObject m1.Objects t6).Id) t6 x7) (w64 (t6+(1:Int))))) (K1 x7)
def border_of.F (m1:Map):W (border_parcel×Bool):=W.bind (atlas_Valid.F m1) (fun r1=>W.ite (!r1) (W.ret ((⟨zMap,([]:List (BA×Int))⟩:border_parcel),false)) (W.ex fun n=>W.iter2 (border_of.l1 m1 (border_of.c1 m1)) n ([]:(List (BA×Int))) (0:Int)))
theorem border_of.ok {m1:Map} {Q:(border_parcel×Bool)→Prop} (hF:border_of.F m1 Q):Con Tryz.prog 30 [.tv kMap m1] [] (fun ta rs'=>∃ (r:(border_parcel×Bool)),Q r∧ta=.tup2 (.tv kborder_parcel r.1) (.tv kBool r.2)∧rs'=[]):=by
 refine Con.i Tryz.func30 Tryz.ntmps30 R R (fun C=>?_)
 unfold border_of.F at hF
 refine At.seq (At.region (At.f R (jw R R R (ja R)) ?_))
 rintro _ _ ⟨g1,rfl,rfl⟩
 refine At.f R (eff_alloc R R R tz_76) ?_
 rintro _ _ ⟨g2,rfl,rfl⟩
 refine At.d R R R R (jd (x:=(.tv kBool false)) (jl _)) ?_
 refine At.done (At.vh (At.seq (At.seq (At.region (At.d R R R R (jc (ja R) 1 R (Sub.self kMap) ty_24) ?_)))))
 replace hF:=W.vm hF
 refine At.f R (jn R R jp (jq R en_20 (jf (ja R) jg)) (atlas_Valid.ok hF) (by rintro _ _ ⟨r,_,rfl,_⟩;exact vl)) ?_
 rintro _ _ ⟨_,_,⟨r1,hF,rfl,rfl⟩,rfl,rfl⟩
 refine At.d R R R R (does_not (ja R)) ?_
 refine At.done (At.vh ?_)
 refine At.cond (ja R) (fun hb1=>?_) (fun hb1=>?_)
 ·replace hF:=W.ite_t hb1 hF
  refine At.seq (At.region (At.d R R R R (jz parts_nil zr_76 bd_76 R fills_nil) ?_))
  refine At.f R (jx R R (ja R) 0 R (Sub.self kborder_parcel) ty_76 (ja R)) ?_
  rintro _ _ ⟨rfl,rfl⟩
  refine At.d R R R R (jd (x:=(.tv kBool false)) (jl _)) ?_
  refine At.done (At.vh (At.ret (At.vi ?_)))
  exact At.ret_2 rfl (rv_cell rfl 0 rfl ty_76) (rv_tmp rfl) [] rfl ⟨((⟨zMap,([]:List (BA×Int))⟩:border_parcel),false),hF,rfl,rfl⟩
 ·replace hF:=W.ite_f hb1 hF
  refine At.skip (At.vh (At.seq (At.region (At.d R R R R (jc (ja R) 1 R (Sub.self kMap) ty_24) ?_))))
  refine At.f R (eff_makeMap R R R kStr (kInt .i64)) ?_
  rintro _ _ ⟨g3,rfl,rfl⟩
  refine At.d R R R R (jz (K:=(kPair kMap kRaw)) (z:=(zborder_parcel.m,(.map none))) (y:=((⟨m1,([]:List (BA×Int))⟩:border_parcel).m,(.map (some g3)))) (jr (ja R) (jr (opd_raw (ja R) R) parts_nil)) (fun φ=>⟨[.slice none 0 0],[.map none],R,⟨none,0,R,Nat.le_refl _,by simp [maxLen],fun h=>absurd R h⟩,⟨R,R⟩⟩) bd_76 R (fills_cons R (Sub.fst (Sub.self kMap)) (fills_cons R (Sub.snd (Sub.self kRaw)) fills_nil))) ?_
  refine At.f R (eff_alloc R R R tz_76) ?_
  rintro _ _ ⟨g4,rfl,rfl⟩
  refine At.f R (eff_store_swap (K':=(kPair kMap kRaw)) (x':=((⟨m1,([]:List (BA×Int))⟩:border_parcel).m,(.map (some g3)))) R R (ja R) 0 R (Swap.whole R) (Ty.turn ty_76 R R) (ja R)) ?_
  rintro _ _ ⟨rfl,rfl⟩
  refine At.done (At.vh ?_)
  refine At.cut (fun rs L=>∃ (x4:(List (BA×Int))),border_of.c1 m1 x4 Q∧rs=[.box g2 76 kborder_parcel zborder_parcel,.box g4 76 (kPair kMap kRaw) ((⟨m1,([]:List (BA×Int))⟩:border_parcel).m,(.map (some g3))),.map g3 kStr (kInt .i64) x4]∧L=mkL [(2,(.eq (.pointer (some ⟨g2,0,none⟩)))),(4,(.eq (.pointer (some ⟨g4,0,none⟩))))]) ?_ ?_
  ·refine At.seq (At.region (At.d R R R R (je (ja R) fa_24_0) ?_))
   refine At.d R R R R (jc (ja R) 3 R sub_Map_0 ty_22) ?_
   refine At.d R R R R (js (ja R) Tryz.underlying22) ?_
   refine At.d R R R R (jb (x:=(.tv (kInt .i64) (0:Int))) (ji _ _)) ?_
   refine At.done (At.vh (At.block ?_))
   obtain ⟨n1,hF⟩:=hF
   refine At.w [2,0,1] R [(2,(.eq (.pointer (some ⟨g2,0,none⟩)))),(4,(.eq (.pointer (some ⟨g4,0,none⟩)))),(15,(.tv (kSlice kObject) m1.Objects)),(16,(.tv (kInt .i64) (m1.Objects.length:Int))),(17,(.tv (kInt .i64) (0:Int)))] ⟨R,R,R,R,R,trivial⟩ ?_
   refine At.loop (fun m rs L=>∃ (x7:(List (BA×Int))) (t6:Int),W.iter2 (border_of.l1 m1 (border_of.c1 m1)) m x7 t6 Q∧rs=[.box g2 76 kborder_parcel zborder_parcel,.box g4 76 (kPair kMap kRaw) ((⟨m1,([]:List (BA×Int))⟩:border_parcel).m,(.map (some g3))),.map g3 kStr (kInt .i64) x7]∧L=mkL [(2,(.eq (.pointer (some ⟨g2,0,none⟩)))),(4,(.eq (.pointer (some ⟨g4,0,none⟩)))),(15,(.tv (kSlice kObject) m1.Objects)),(16,(.tv (kInt .i64) (m1.Objects.length:Int))),(17,(.tv (kInt .i64) t6))]) ?_ ?_ (m:=n1) ⟨([]:(List (BA×Int))),(0:Int),hF,R,R⟩
   ·rintro rs L ⟨_,_,hF,_,_⟩;exact hF
   ·rintro m2 _ _ ⟨x7,t6,hF,rfl,rfl⟩
    replace hF:=W.iter2_s hF
    unfold border_of.l1 at hF
    refine At.seq (At.region (At.d R R R R (jk (ja R) (ja R) vd) ?_))
    refine At.done (At.vh (At.seq ?_))
    refine At.cond (ja R) (fun hb6=>?_) (fun hb6=>?_)
    ·replace hF:=W.ite_t hb6 hF
     refine At.skip (At.vh (At.seq (At.block (At.seq (At.region (At.d R R R R (jb (x:=(.tv (kInt .i64) t6)) (ja R)) ?_))))))
     obtain ⟨hq5,hF⟩:=hF
     refine At.d R R R R (vf zObject (ja R) (ja R) Tryz.underlying22 ty_59 hq5) ?_
     refine At.d R R R R (vq (K:=kObject) (ja R) ty_59) ?_
     refine At.f R (eff_alloc R R R tz_59) ?_
     rintro _ _ ⟨g9,rfl,rfl⟩
     refine At.d R R R R (jd (x:=(.tv (kInt .i64) t6)) (ja R)) ?_
     refine At.f R (jx R R (ja R) 0 R (Sub.self kObject) ty_59 (ja R)) ?_
     rintro _ _ ⟨rfl,rfl⟩
     refine At.done (At.vh (At.region (At.d R R R R (je (ja R) fa_76_1) ?_)))
     refine At.d R R R R (does_load_raw (ja R) 2 R (Sub.snd (Sub.self kRaw)) tyr_74 R) ?_
     refine At.d R R R R (je (ja R) fa_59_0) ?_
     refine At.d R R R R (jc (ja R) 0 R sub_Object_0 ty_9) ?_
     refine At.d R R R R (jb (x:=(.tv (kInt .i64) t6)) (ja R)) ?_
     refine At.f R (eff_mapUpdate R R (ja R) 3 R mt_74 (ja R) (ja R)) ?_
     rintro _ _ ⟨rfl,rfl⟩
     refine At.done ?_
     refine At.n ?_
     refine At.vh (At.region (At.d R R R R (jk (ja R) (ji _ _) vc) ?_))
     refine At.d R R R R (jb (x:=(.tv (kInt .i64) (w64 (t6+(1:Int))))) (ja R)) ?_
     refine At.done (At.vh ?_)
     refine At.w [1,2,3] R [(2,(.eq (.pointer (some ⟨g2,0,none⟩)))),(4,(.eq (.pointer (some ⟨g4,0,none⟩)))),(15,(.tv (kSlice kObject) m1.Objects)),(16,(.tv (kInt .i64) (m1.Objects.length:Int))),(17,(.tv (kInt .i64) (w64 (t6+(1:Int)))))] ⟨R,R,R,R,R,trivial⟩ (At.r ⟨(mset ((rd zObject m1.Objects t6).Id) t6 x7),(w64 (t6+(1:Int))),hF,R,R⟩)
    ·replace hF:=W.ite_f hb6 hF
     refine At.exit ?_
     refine At.x (At.x ?_)
     refine At.h ?_
     refine At.vh ?_
     refine At.w [0,1,2] R [(2,(.eq (.pointer (some ⟨g2,0,none⟩)))),(4,(.eq (.pointer (some ⟨g4,0,none⟩))))] ⟨R,R,trivial⟩ (At.r ⟨x7,hF,R,R⟩)
  ·rintro _ _ ⟨x4,hF,rfl,rfl⟩
   unfold border_of.c1 at hF
   refine At.seq (At.region (At.d R R R R (jc (ja R) 1 R (Sub.self (kPair kMap kRaw)) (Ty.turn ty_76 R R)) ?_))
   refine At.f R (eff_store_swap (K':=(kPair kMap kRaw)) (x':=((⟨m1,([]:List (BA×Int))⟩:border_parcel).m,(.map (some g3)))) R R (ja R) 0 R (Swap.whole R) (Ty.turn ty_76 R R) (ja R)) ?_
   rintro _ _ ⟨rfl,rfl⟩
   refine At.d R R R R (jd (x:=(.tv kBool true)) (jl _)) ?_
   refine At.done (At.vh (At.ret ?_))
   refine At.mapfreeze 2 [] R trivial ?_
   refine At.boxtold 0 (K':=kborder_parcel) (y:=({ (⟨m1,([]:List (BA×Int))⟩:border_parcel) with at_:=x4 }:border_parcel)) R (Turn.isoR (Turn.pair (Turn.refl _ _) (Turn.fmap (j:=2) R))) ?_
   refine At.boxtold 1 (K':=kborder_parcel) (y:=({ (⟨m1,([]:List (BA×Int))⟩:border_parcel) with at_:=x4 }:border_parcel)) R (Turn.isoR (Turn.pair (Turn.refl _ _) (Turn.fmap (j:=2) R))) ?_
   refine At.slottold 28 (K':=kborder_parcel) (y:=({ (⟨m1,([]:List (BA×Int))⟩:border_parcel) with at_:=x4 }:border_parcel)) R (Turn.isoR (Turn.pair (Turn.refl _ _) (Turn.fmap (j:=2) R))) R ?_
   exact At.ret_2 rfl (rv_cell rfl 0 rfl ty_76) (rv_tmp rfl) [] rfl ⟨(({ (⟨m1,([]:List (BA×Int))⟩:border_parcel) with at_:=x4 }:border_parcel),true),hF,rfl,rfl⟩
def border_parcel_nodes_1__p.F (id1:BA) (t1:border_parcel):W Bool:=W.req ((!(!(mhas id1 t1.at_)))=true→0≤(mget id1 (0:Int) t1.at_)∧(mget id1 (0:Int) t1.at_)<(t1.m.Objects.length:Int)) (W.ret ((!(mhas id1 t1.at_))||(((rd zObject t1.m.Objects (mget id1 (0:Int) t1.at_)).Kind) != (1:Int))))
theorem border_parcel_nodes_1__p.ok {id1:BA} {t1:border_parcel} {Q:Bool→Prop} (hF:border_parcel_nodes_1__p.F id1 t1 Q):Con Tryz.prog 101 [.tv kStr id1,.ptr kborder_parcel t1] [] (fun ta rs'=>∃ (r:Bool),Q r∧ta=.tv kBool r∧rs'=[]):=by
 refine Con.i Tryz.func101 Tryz.ntmps101 R R (fun C=>?_)
 unfold border_parcel_nodes_1__p.F at hF
 refine At.seq (At.region (At.d R R R R (jd (x:=(.tv kBool false)) (jl _)) ?_))
 refine At.done (At.vh (At.seq (At.region (At.d R R R R (Jd (K:=kborder_parcel) (ja R) fa_76_1 sub_border_parcel_1) ?_))))
 refine At.d R R R R (vq (K:=(kMp kStr (kInt .i64))) (ja R) ty_74) ?_
 refine At.d R R R R (jb (x:=(.tv kStr id1)) (ja R)) ?_
 refine At.d R R R R (does_lookOkF (ja R) mt_74 (ja R)) ?_
 refine At.d R R R R (jb (x:=(.tup2 (.tv (kInt .i64) (mget id1 (0:Int) t1.at_)) (.tv kBool (mhas id1 t1.at_)))) (ja R)) ?_
 refine At.d R R R R (does_extract20 (ja R)) ?_
 refine At.d R R R R (does_extract21 (ja R)) ?_
 refine At.d R R R R (jd (x:=(.tv (kInt .i64) (mget id1 (0:Int) t1.at_))) (ja R)) ?_
 refine At.d R R R R (jd (x:=(.tv kBool (mhas id1 t1.at_))) (ja R)) ?_
 refine At.done (At.vh (At.seq (At.region (At.d R R R R (jb (x:=(.tv kBool (mhas id1 t1.at_))) (ja R)) ?_))))
 refine At.d R R R R (does_not (ja R)) ?_
 refine At.d R R R R (jb (x:=(.tv kBool (!(mhas id1 t1.at_)))) (ja R)) ?_
 refine At.vj R R R R (jv R) R (fun hg1=>(Jd (K:=kborder_parcel) (ja R) fa_76_0 sub_border_parcel_0)) ?_
 refine At.vj R R R R (jv R) R (fun hg2=>(Jd (K:=kMap) (jh R hg2) fa_24_0 sub_Map_0)) ?_
 refine At.vj R R R R (jv R) R (fun hg3=>(vq (K:=(kSlice kObject)) (jh R hg3) ty_22)) ?_
 refine At.vj R R R R (jv R) R (fun hg4=>(jb (x:=(.tv (kInt .i64) (mget id1 (0:Int) t1.at_))) (ja R))) ?_
 obtain ⟨hq1,hF⟩:=hF
 refine At.vj R R R R (jv R) R (fun hg5=>(vf zObject (jh R hg5) (jh R hg5) Tryz.underlying22 ty_59 (hq1 hg5))) ?_
 refine At.vj R R R R (jv R) R (fun hg6=>(Jd (K:=kObject) (jh R hg6) fa_59_1 sub_Object_1)) ?_
 refine At.vj R R R R (jv R) R (fun hg7=>(vq (K:=(kInt .i64)) (jh R hg7) ty_3)) ?_
 refine At.vj R R R R (jv R) R (fun hg8=>(jk (jh R hg8) (ji _ _) bin_neq)) ?_
 refine At.d R R R R (jm (ja R) (jl _) (ja R) pick_or) ?_
 refine At.d R R R R (jd (x:=(.tv kBool ((!(mhas id1 t1.at_))||(((rd zObject t1.m.Objects (mget id1 (0:Int) t1.at_)).Kind) != (1:Int))))) (ja R)) ?_
 refine At.done (At.vh (At.ret ?_))
 exact At.j rfl (rv_tmp rfl) [] rfl ⟨((!(mhas id1 t1.at_))||(((rd zObject t1.m.Objects (mget id1 (0:Int) t1.at_)).Kind) != (1:Int))),hF,rfl,rfl⟩
def vv.c1:W Int:=W.ret (-1:Int)
def vv.l1 (s1:(List BA)) (c1:border_parcel) (K1:W Int) (A1:Int→W Int) (t6:Int):W Int:=W.ite (decide (t6<(s1.length:Int))) (W.req (0≤t6∧t6<(s1.length:Int)) (W.bind (border_parcel_nodes_1__p.F (rd (⟨#[]⟩:BA) s1 t6) c1) (fun r5=>W.ite r5 (W.ret t6) (A1 (w64 (t6+(1:Int))))))) (K1)
def vv.F (s1:(List BA)) (c1:border_parcel):W Int:=W.ex fun n=>W.iter1 (vv.l1 s1 c1 (vv.c1)) n (0:Int)
theorem vv.ok {s1:(List BA)} {c1:border_parcel} {Q:Int→Prop} (hF:vv.F s1 c1 Q):Con Tryz.prog 131 [.tv (kSlice kStr) s1,.cls 101 0 (tupl [.ptr kborder_parcel c1])] [] (fun ta rs'=>∃ (r:Int),Q r∧ta=.tv (kInt .i64) r∧rs'=[]):=by
 refine Con.i Tryz.func131 Tryz.ntmps131 R R (fun C=>?_)
 unfold vv.F at hF
 refine At.seq (At.region (At.d R R R R (jd (x:=(.tv (kInt .i64) (0:Int))) (ji _ _)) ?_))
 refine At.done (At.vh ?_)
 refine At.cut (fun rs L=>∃ _:Unit,vv.c1 Q∧rs=[]∧L=mkL []) ?_ ?_
 ·refine At.seq (At.region (At.d R R R R (jb (x:=(.tv (kSlice kStr) s1)) (ja R)) ?_))
  refine At.d R R R R (js (ja R) Tryz.underlying41) ?_
  refine At.d R R R R (jb (x:=(.tv (kInt .i64) (0:Int))) (ji _ _)) ?_
  refine At.done (At.vh (At.block ?_))
  obtain ⟨n1,hF⟩:=hF
  refine At.w [] R [(0,(.tv (kSlice kStr) s1)),(1,(.cls 101 0 (tupl [(.ptr kborder_parcel c1)]))),(7,(.tv (kInt .i64) (s1.length:Int))),(8,(.tv (kInt .i64) (0:Int)))] ⟨R,R,R,R,trivial⟩ ?_
  refine At.loop (fun m rs L=>∃ (t6:Int),W.iter1 (vv.l1 s1 c1 (vv.c1)) m t6 Q∧rs=[]∧L=mkL [(0,(.tv (kSlice kStr) s1)),(1,(.cls 101 0 (tupl [(.ptr kborder_parcel c1)]))),(7,(.tv (kInt .i64) (s1.length:Int))),(8,(.tv (kInt .i64) t6))]) ?_ ?_ (m:=n1) ⟨(0:Int),hF,R,R⟩
  ·rintro rs L ⟨_,hF,_,_⟩;exact hF
  ·rintro m1 _ _ ⟨t6,hF,rfl,rfl⟩
   replace hF:=W.iter1_s hF
   unfold vv.l1 at hF
   refine At.seq (At.region (At.d R R R R (jk (ja R) (ja R) vd) ?_))
   refine At.done (At.vh (At.seq ?_))
   refine At.cond (ja R) (fun hb9=>?_) (fun hb9=>?_)
   ·replace hF:=W.ite_t hb9 hF
    refine At.skip (At.vh (At.seq (At.block (At.seq (At.region (At.d R R R R (jb (x:=(.tv (kInt .i64) t6)) (ja R)) ?_))))))
    refine At.d R R R R (jd (x:=(.tv (kInt .i64) t6)) (ja R)) ?_
    refine At.done (At.vh (At.seq (At.region (At.d R R R R (jb (x:=(.cls 101 0 (tupl [(.ptr kborder_parcel c1)]))) (ja R)) ?_))))
    refine At.d R R R R (jb (x:=(.tv (kSlice kStr) s1)) (ja R)) ?_
    refine At.d R R R R (jb (x:=(.tv (kInt .i64) t6)) (ja R)) ?_
    obtain ⟨hq5,hF⟩:=hF
    refine At.d R R R R (vf (⟨#[]⟩:BA) (ja R) (ja R) Tryz.underlying41 ty_9 hq5) ?_
    refine At.d R R R R (vq (K:=kStr) (ja R) ty_9) ?_
    replace hF:=W.vm hF
    refine At.f R (jn R R jp (ent_val0 R (ja R) en_101 (jf (ja R) jg)) (border_parcel_nodes_1__p.ok hF) (by rintro _ _ ⟨r,_,rfl,_⟩;exact vl)) ?_
    rintro _ _ ⟨_,_,⟨r5,hF,rfl,rfl⟩,rfl,rfl⟩
    refine At.done (At.vh ?_)
    refine At.cond (ja R) (fun hb10=>?_) (fun hb10=>?_)
    ·replace hF:=W.ite_t hb10 hF
     refine At.seq (At.region (At.d R R R R (jb (x:=(.tv (kInt .i64) t6)) (ja R)) ?_))
     refine At.d R R R R (jd (x:=(.tv (kInt .i64) t6)) (ja R)) ?_
     refine At.done (At.vh (At.ret ?_))
     refine At.q ?_
     refine At.vi (At.vi ?_)
     refine At.q ?_
     refine At.vi ?_
     exact At.j rfl (rv_tmp rfl) [] rfl ⟨t6,hF,rfl,rfl⟩
    ·replace hF:=W.ite_f hb10 hF
     refine At.skip ?_
     refine At.n ?_
     refine At.vh (At.region (At.d R R R R (jk (ja R) (ji _ _) vc) ?_))
     refine At.d R R R R (jb (x:=(.tv (kInt .i64) (w64 (t6+(1:Int))))) (ja R)) ?_
     refine At.done (At.vh ?_)
     refine At.w [] R [(0,(.tv (kSlice kStr) s1)),(1,(.cls 101 0 (tupl [(.ptr kborder_parcel c1)]))),(7,(.tv (kInt .i64) (s1.length:Int))),(8,(.tv (kInt .i64) (w64 (t6+(1:Int)))))] ⟨R,R,R,R,trivial⟩ (At.r ⟨(w64 (t6+(1:Int))),hF,R,R⟩)
   ·replace hF:=W.ite_f hb9 hF
    refine At.exit ?_
    refine At.x (At.x ?_)
    refine At.h ?_
    refine At.vh ?_
    refine At.w [] R [] trivial (At.r ⟨(),hF,R,R⟩)
 ·rintro _ _ ⟨_,hF,rfl,rfl⟩
  unfold vv.c1 at hF
  refine At.seq (At.region (At.d R R R R (jd (x:=(.tv (kInt .i64) (-1:Int))) (ji _ _)) ?_))
  refine At.done (At.vh (At.ret ?_))
  exact At.j rfl (rv_tmp rfl) [] rfl ⟨(-1:Int),hF,rfl,rfl⟩
def Jk.F (s1:(List BA)) (c1:border_parcel):W Bool:=W.bind (vv.F s1 c1) (fun r1=>W.ret (decide ((0:Int)≤r1)))
theorem Jk.ok {s1:(List BA)} {c1:border_parcel} {Q:Bool→Prop} (hF:Jk.F s1 c1 Q):Con Tryz.prog 85 [.tv (kSlice kStr) s1,.cls 101 0 (tupl [.ptr kborder_parcel c1])] [] (fun ta rs'=>∃ (r:Bool),Q r∧ta=.tv kBool r∧rs'=[]):=by
 refine Con.i Tryz.func85 Tryz.ntmps85 R R (fun C=>?_)
 unfold Jk.F at hF
 refine At.seq (At.region (At.d R R R R (jd (x:=(.tv kBool false)) (jl _)) ?_))
 refine At.done (At.vh (At.seq (At.region (At.d R R R R (jb (x:=(.tv (kSlice kStr) s1)) (ja R)) ?_))))
 refine At.d R R R R (jb (x:=(.cls 101 0 (tupl [(.ptr kborder_parcel c1)]))) (ja R)) ?_
 replace hF:=W.vm hF
 refine At.f R (jn R R jp (jq R en_131 (jf (ja R) (jf (ja R) jg))) (vv.ok hF) (by rintro _ _ ⟨r,_,rfl,_⟩;exact flat_int)) ?_
 rintro _ _ ⟨_,_,⟨r1,hF,rfl,rfl⟩,rfl,rfl⟩
 refine At.d R R R R (jk (ja R) (ji _ _) bin_geq) ?_
 refine At.d R R R R (jd (x:=(.tv kBool (decide ((0:Int)≤r1)))) (ja R)) ?_
 refine At.done (At.vh (At.ret ?_))
 exact At.j rfl (rv_tmp rfl) [] rfl ⟨(decide ((0:Int)≤r1)),hF,rfl,rfl⟩
def border_parcel_nodes.F (p1:border_parcel) (o1:Object):W Bool:=W.bind (Jk.F o1.Refs p1) (fun r1=>W.ret (!r1))
theorem border_parcel_nodes.ok {p1:border_parcel} {o1:Object} {Q:Bool→Prop} (hF:border_parcel_nodes.F p1 o1 Q):Con Tryz.prog 65 [.tv kborder_parcel p1,.tv kObject o1] [] (fun ta rs'=>∃ (r:Bool),Q r∧ta=.tv kBool r∧rs'=[]):=by
 refine Con.i Tryz.func65 Tryz.ntmps65 R R (fun C=>?_)
 unfold border_parcel_nodes.F at hF
 refine At.seq (At.region (At.f R (jw R R R (ja R)) ?_))
 rintro _ _ ⟨g1,rfl,rfl⟩
 refine At.f R (jw R R R (ja R)) ?_
 rintro _ _ ⟨g2,rfl,rfl⟩
 refine At.d R R R R (jd (x:=(.tv kBool false)) (jl _)) ?_
 refine At.done (At.vh (At.seq (At.region (At.d R R R R (je (ja R) fa_59_3) ?_))))
 refine At.d R R R R (jc (ja R) 0 R sub_Object_3 ty_41) ?_
 refine At.d R R R R (does_cls (firsts:=[]) (caps:=[.tmp 2]) R (jf (ja R) jg)) ?_
 replace hF:=W.vm hF
 refine At.f R (jn R R (lends_box 1 7 R R (lend1_cls (lend1_here lend1_ptr)) jp) (jq R en_85 (jf (ja R) (jf (ja R) jg))) (Jk.ok hF) (by rintro _ _ ⟨r,_,rfl,_⟩;exact vl)) ?_
 rintro _ _ ⟨_,_,⟨r1,hF,rfl,rfl⟩,rfl,rfl⟩
 refine At.d R R R R (does_not (ja R)) ?_
 refine At.d R R R R (jd (x:=(.tv kBool (!r1))) (ja R)) ?_
 refine At.done (At.vh (At.ret ?_))
 exact At.j rfl (rv_tmp rfl) [] rfl ⟨(!r1),hF,rfl,rfl⟩
def Ji.c1:W Int:=W.ret (-1:Int)
def Ji.l1 (s1:(List BA)) (v1:BA) (K1:W Int) (A1:Int→W Int) (t6:Int):W Int:=W.ite (decide (t6<(s1.length:Int))) (W.req (0≤t6∧t6<(s1.length:Int)) (W.ite (sEq v1 (rd (⟨#[]⟩:BA) s1 t6)) (W.ret t6) (A1 (w64 (t6+(1:Int)))))) (K1)
def Ji.F (s1:(List BA)) (v1:BA):W Int:=W.ex fun n=>W.iter1 (Ji.l1 s1 v1 (Ji.c1)) n (0:Int)
theorem Ji.ok {s1:(List BA)} {v1:BA} {Q:Int→Prop} (hF:Ji.F s1 v1 Q):Con Tryz.prog 69 [.tv (kSlice kStr) s1,.tv kStr v1] [] (fun ta rs'=>∃ (r:Int),Q r∧ta=.tv (kInt .i64) r∧rs'=[]):=by
 refine Con.i Tryz.func69 Tryz.ntmps69 R R (fun C=>?_)
 unfold Ji.F at hF
 refine At.seq (At.region (At.d R R R R (jd (x:=(.tv (kInt .i64) (0:Int))) (ji _ _)) ?_))
 refine At.done (At.vh ?_)
 refine At.cut (fun rs L=>∃ _:Unit,Ji.c1 Q∧rs=[]∧L=mkL []) ?_ ?_
 ·refine At.seq (At.region (At.d R R R R (jb (x:=(.tv (kSlice kStr) s1)) (ja R)) ?_))
  refine At.d R R R R (js (ja R) Tryz.underlying41) ?_
  refine At.d R R R R (jb (x:=(.tv (kInt .i64) (0:Int))) (ji _ _)) ?_
  refine At.done (At.vh (At.block ?_))
  obtain ⟨n1,hF⟩:=hF
  refine At.w [] R [(0,(.tv (kSlice kStr) s1)),(1,(.tv kStr v1)),(7,(.tv (kInt .i64) (s1.length:Int))),(8,(.tv (kInt .i64) (0:Int)))] ⟨R,R,R,R,trivial⟩ ?_
  refine At.loop (fun m rs L=>∃ (t6:Int),W.iter1 (Ji.l1 s1 v1 (Ji.c1)) m t6 Q∧rs=[]∧L=mkL [(0,(.tv (kSlice kStr) s1)),(1,(.tv kStr v1)),(7,(.tv (kInt .i64) (s1.length:Int))),(8,(.tv (kInt .i64) t6))]) ?_ ?_ (m:=n1) ⟨(0:Int),hF,R,R⟩
  ·rintro rs L ⟨_,hF,_,_⟩;exact hF
  ·rintro m1 _ _ ⟨t6,hF,rfl,rfl⟩
   replace hF:=W.iter1_s hF
   unfold Ji.l1 at hF
   refine At.seq (At.region (At.d R R R R (jk (ja R) (ja R) vd) ?_))
   refine At.done (At.vh (At.seq ?_))
   refine At.cond (ja R) (fun hb9=>?_) (fun hb9=>?_)
   ·replace hF:=W.ite_t hb9 hF
    refine At.skip (At.vh (At.seq (At.block (At.seq (At.region (At.d R R R R (jb (x:=(.tv (kInt .i64) t6)) (ja R)) ?_))))))
    refine At.d R R R R (jd (x:=(.tv (kInt .i64) t6)) (ja R)) ?_
    refine At.done (At.vh (At.seq (At.region (At.d R R R R (jb (x:=(.tv kStr v1)) (ja R)) ?_))))
    refine At.d R R R R (jb (x:=(.tv (kSlice kStr) s1)) (ja R)) ?_
    refine At.d R R R R (jb (x:=(.tv (kInt .i64) t6)) (ja R)) ?_
    obtain ⟨hq5,hF⟩:=hF
    refine At.d R R R R (vf (⟨#[]⟩:BA) (ja R) (ja R) Tryz.underlying41 ty_9 hq5) ?_
    refine At.d R R R R (vq (K:=kStr) (ja R) ty_9) ?_
    refine At.d R R R R (jk (ja R) (ja R) bin_seql) ?_
    refine At.done (At.vh ?_)
    refine At.cond (ja R) (fun hb10=>?_) (fun hb10=>?_)
    ·replace hF:=W.ite_t hb10 hF
     refine At.seq (At.region (At.d R R R R (jb (x:=(.tv (kInt .i64) t6)) (ja R)) ?_))
     refine At.d R R R R (jd (x:=(.tv (kInt .i64) t6)) (ja R)) ?_
     refine At.done (At.vh (At.ret ?_))
     refine At.q ?_
     refine At.vi (At.vi ?_)
     refine At.q ?_
     refine At.vi ?_
     exact At.j rfl (rv_tmp rfl) [] rfl ⟨t6,hF,rfl,rfl⟩
    ·replace hF:=W.ite_f hb10 hF
     refine At.skip ?_
     refine At.n ?_
     refine At.vh (At.region (At.d R R R R (jk (ja R) (ji _ _) vc) ?_))
     refine At.d R R R R (jb (x:=(.tv (kInt .i64) (w64 (t6+(1:Int))))) (ja R)) ?_
     refine At.done (At.vh ?_)
     refine At.w [] R [(0,(.tv (kSlice kStr) s1)),(1,(.tv kStr v1)),(7,(.tv (kInt .i64) (s1.length:Int))),(8,(.tv (kInt .i64) (w64 (t6+(1:Int)))))] ⟨R,R,R,R,trivial⟩ (At.r ⟨(w64 (t6+(1:Int))),hF,R,R⟩)
   ·replace hF:=W.ite_f hb9 hF
    refine At.exit ?_
    refine At.x (At.x ?_)
    refine At.h ?_
    refine At.vh ?_
    refine At.w [] R [] trivial (At.r ⟨(),hF,R,R⟩)
 ·rintro _ _ ⟨_,hF,rfl,rfl⟩
  unfold Ji.c1 at hF
  refine At.seq (At.region (At.d R R R R (jd (x:=(.tv (kInt .i64) (-1:Int))) (ji _ _)) ?_))
  refine At.done (At.vh (At.ret ?_))
  exact At.j rfl (rv_tmp rfl) [] rfl ⟨(-1:Int),hF,rfl,rfl⟩
def Jh.F (s1:(List BA)) (v1:BA):W Bool:=W.bind (Ji.F s1 v1) (fun r1=>W.ret (decide ((0:Int)≤r1)))
theorem Jh.ok {s1:(List BA)} {v1:BA} {Q:Bool→Prop} (hF:Jh.F s1 v1 Q):Con Tryz.prog 36 [.tv (kSlice kStr) s1,.tv kStr v1] [] (fun ta rs'=>∃ (r:Bool),Q r∧ta=.tv kBool r∧rs'=[]):=by
 refine Con.i Tryz.func36 Tryz.ntmps36 R R (fun C=>?_)
 unfold Jh.F at hF
 refine At.seq (At.region (At.d R R R R (jd (x:=(.tv kBool false)) (jl _)) ?_))
 refine At.done (At.vh (At.seq (At.region (At.d R R R R (jb (x:=(.tv (kSlice kStr) s1)) (ja R)) ?_))))
 refine At.d R R R R (jb (x:=(.tv kStr v1)) (ja R)) ?_
 replace hF:=W.vm hF
 refine At.f R (jn R R jp (jq R en_69 (jf (ja R) (jf (ja R) jg))) (Ji.ok hF) (by rintro _ _ ⟨r,_,rfl,_⟩;exact flat_int)) ?_
 rintro _ _ ⟨_,_,⟨r1,hF,rfl,rfl⟩,rfl,rfl⟩
 refine At.d R R R R (jk (ja R) (ji _ _) bin_geq) ?_
 refine At.d R R R R (jd (x:=(.tv kBool (decide ((0:Int)≤r1)))) (ja R)) ?_
 refine At.done (At.vh (At.ret ?_))
 exact At.j rfl (rv_tmp rfl) [] rfl ⟨(decide ((0:Int)≤r1)),hF,rfl,rfl⟩
def cmp_isNaN_string.F (x1:BA):W Bool:=W.ret (!(sEq x1 x1))
theorem cmp_isNaN_string.ok {x1:BA} {Q:Bool→Prop} (hF:cmp_isNaN_string.F x1 Q):Con Tryz.prog 122 [.tv kStr x1] [] (fun ta rs'=>∃ (r:Bool),Q r∧ta=.tv kBool r∧rs'=[]):=by
 refine Con.i Tryz.func122 Tryz.ntmps122 R R (fun C=>?_)
 unfold cmp_isNaN_string.F at hF
 refine At.seq (At.region (At.d R R R R (jd (x:=(.tv kBool false)) (jl _)) ?_))
 refine At.done (At.vh (At.seq (At.region (At.d R R R R (jb (x:=(.tv kStr x1)) (ja R)) ?_))))
 refine At.d R R R R (jb (x:=(.tv kStr x1)) (ja R)) ?_
 refine At.d R R R R (jk (ja R) (ja R) bin_sneq) ?_
 refine At.d R R R R (jd (x:=(.tv kBool (!(sEq x1 x1)))) (ja R)) ?_
 refine At.done (At.vh (At.ret ?_))
 exact At.j rfl (rv_tmp rfl) [] rfl ⟨(!(sEq x1 x1)),hF,rfl,rfl⟩
def cmp_Compare_string.F (x1:BA) (y1:BA):W Int:=W.bind (cmp_isNaN_string.F x1) (fun r1=>W.bind (cmp_isNaN_string.F y1) (fun r2=>W.ite r1 (W.ite r2 (W.ret (0:Int)) (W.ret (-1:Int))) (W.ite r2 (W.ret (1:Int)) (W.ite (sLt x1 y1) (W.ret (-1:Int)) (W.ite (!(sLt x1 y1||sEq x1 y1)) (W.ret (1:Int)) (W.ret (0:Int)))))))
theorem cmp_Compare_string.ok {x1:BA} {y1:BA} {Q:Int→Prop} (hF:cmp_Compare_string.F x1 y1 Q):Con Tryz.prog 73 [.tv kStr x1,.tv kStr y1] [] (fun ta rs'=>∃ (r:Int),Q r∧ta=.tv (kInt .i64) r∧rs'=[]):=by
 refine Con.i Tryz.func73 Tryz.ntmps73 R R (fun C=>?_)
 unfold cmp_Compare_string.F at hF
 refine At.seq (At.region (At.d R R R R (jd (x:=(.tv (kInt .i64) (0:Int))) (ji _ _)) ?_))
 refine At.done (At.vh (At.seq (At.region (At.d R R R R (jb (x:=(.tv kStr x1)) (ja R)) ?_))))
 replace hF:=W.vm hF
 refine At.f R (jn R R jp (jq R en_122 (jf (ja R) jg)) (cmp_isNaN_string.ok hF) (by rintro _ _ ⟨r,_,rfl,_⟩;exact vl)) ?_
 rintro _ _ ⟨_,_,⟨r1,hF,rfl,rfl⟩,rfl,rfl⟩
 refine At.d R R R R (jd (x:=(.tv kBool r1)) (ja R)) ?_
 refine At.done (At.vh (At.seq (At.region (At.d R R R R (jb (x:=(.tv kStr y1)) (ja R)) ?_))))
 replace hF:=W.vm hF
 refine At.f R (jn R R jp (jq R en_122 (jf (ja R) jg)) (cmp_isNaN_string.ok hF) (by rintro _ _ ⟨r,_,rfl,_⟩;exact vl)) ?_
 rintro _ _ ⟨_,_,⟨r2,hF,rfl,rfl⟩,rfl,rfl⟩
 refine At.d R R R R (jd (x:=(.tv kBool r2)) (ja R)) ?_
 refine At.done (At.vh (At.seq (At.seq (At.region (At.d R R R R (jb (x:=(.tv kBool r1)) (ja R)) ?_)))))
 refine At.done (At.vh ?_)
 refine At.cond (ja R) (fun hb1=>?_) (fun hb1=>?_)
 ·replace hF:=W.ite_t hb1 hF
  refine At.seq (At.seq (At.region (At.d R R R R (jb (x:=(.tv kBool r2)) (ja R)) ?_)))
  refine At.done (At.vh ?_)
  refine At.cond (ja R) (fun hb2=>?_) (fun hb2=>?_)
  ·replace hF:=W.ite_t hb2 hF
   refine At.seq (At.region (At.d R R R R (jd (x:=(.tv (kInt .i64) (0:Int))) (ji _ _)) ?_))
   refine At.done (At.vh (At.ret (At.vi (At.vi ?_))))
   exact At.j rfl (rv_tmp rfl) [] rfl ⟨(0:Int),hF,rfl,rfl⟩
  ·replace hF:=W.ite_f hb2 hF
   refine At.skip (At.vh (At.seq (At.region (At.d R R R R (jd (x:=(.tv (kInt .i64) (-1:Int))) (ji _ _)) ?_))))
   refine At.done (At.vh (At.ret (At.vi ?_)))
   exact At.j rfl (rv_tmp rfl) [] rfl ⟨(-1:Int),hF,rfl,rfl⟩
 ·replace hF:=W.ite_f hb1 hF
  refine At.skip (At.vh (At.seq (At.seq (At.region (At.d R R R R (jb (x:=(.tv kBool r2)) (ja R)) ?_)))))
  refine At.done (At.vh ?_)
  refine At.cond (ja R) (fun hb3=>?_) (fun hb3=>?_)
  ·replace hF:=W.ite_t hb3 hF
   refine At.seq (At.region (At.d R R R R (jd (x:=(.tv (kInt .i64) (1:Int))) (ji _ _)) ?_))
   refine At.done (At.vh (At.ret (At.vi ?_)))
   exact At.j rfl (rv_tmp rfl) [] rfl ⟨(1:Int),hF,rfl,rfl⟩
  ·replace hF:=W.ite_f hb3 hF
   refine At.skip (At.vh (At.seq (At.seq (At.region (At.d R R R R (jb (x:=(.tv kStr x1)) (ja R)) ?_)))))
   refine At.d R R R R (jb (x:=(.tv kStr y1)) (ja R)) ?_
   refine At.d R R R R (jk (ja R) (ja R) bin_slss) ?_
   refine At.done (At.vh ?_)
   refine At.cond (ja R) (fun hb4=>?_) (fun hb4=>?_)
   ·replace hF:=W.ite_t hb4 hF
    refine At.seq (At.region (At.d R R R R (jd (x:=(.tv (kInt .i64) (-1:Int))) (ji _ _)) ?_))
    refine At.done (At.vh (At.ret (At.vi ?_)))
    exact At.j rfl (rv_tmp rfl) [] rfl ⟨(-1:Int),hF,rfl,rfl⟩
   ·replace hF:=W.ite_f hb4 hF
    refine At.skip (At.vh (At.seq (At.seq (At.region (At.d R R R R (jb (x:=(.tv kStr x1)) (ja R)) ?_)))))
    refine At.d R R R R (jb (x:=(.tv kStr y1)) (ja R)) ?_
    refine At.d R R R R (jk (ja R) (ja R) bin_sgtr) ?_
    refine At.done (At.vh ?_)
    refine At.cond (ja R) (fun hb5=>?_) (fun hb5=>?_)
    ·replace hF:=W.ite_t hb5 hF
     refine At.seq (At.region (At.d R R R R (jd (x:=(.tv (kInt .i64) (1:Int))) (ji _ _)) ?_))
     refine At.done (At.vh (At.ret (At.vi ?_)))
     exact At.j rfl (rv_tmp rfl) [] rfl ⟨(1:Int),hF,rfl,rfl⟩
    ·replace hF:=W.ite_f hb5 hF
     refine At.skip (At.vh (At.seq (At.region (At.d R R R R (jd (x:=(.tv (kInt .i64) (0:Int))) (ji _ _)) ?_))))
     refine At.done (At.vh (At.ret ?_))
     exact At.j rfl (rv_tmp rfl) [] rfl ⟨(0:Int),hF,rfl,rfl⟩
def border_compare.c1:W Int:=W.ret (0:Int)
def border_compare.l1 (l1:(List BA)) (K1:W Int) (A1:Int→W Int) (i6:Int):W Int:=W.ite (decide ((w64 (i6+(1:Int)))<(l1.length:Int))) (W.req (0≤i6∧i6<(l1.length:Int)) (W.req (0≤(w64 (i6+(1:Int)))∧(w64 (i6+(1:Int)))<(l1.length:Int)) (W.bind (cmp_Compare_string.F (rd (⟨#[]⟩:BA) l1 i6) (rd (⟨#[]⟩:BA) l1 (w64 (i6+(1:Int))))) (fun r5=>W.ite (r5 != (0:Int)) (W.ret r5) (A1 (w64 (i6+(2:Int)))))))) (K1)
def border_compare.F (l1:(List BA)):W Int:=W.ex fun n=>W.iter1 (border_compare.l1 l1 (border_compare.c1)) n (0:Int)
theorem border_compare.ok {l1:(List BA)} {Q:Int→Prop} (hF:border_compare.F l1 Q):Con Tryz.prog 68 [.tv (kSlice kStr) l1] [] (fun ta rs'=>∃ (r:Int),Q r∧ta=.tv (kInt .i64) r∧rs'=[]):=by
 refine Con.i Tryz.func68 Tryz.ntmps68 R R (fun C=>?_)
 unfold border_compare.F at hF
 refine At.seq (At.region (At.d R R R R (jd (x:=(.tv (kInt .i64) (0:Int))) (ji _ _)) ?_))
 refine At.done (At.vh ?_)
 refine At.cut (fun rs L=>∃ _:Unit,border_compare.c1 Q∧rs=[]∧L=mkL []) ?_ ?_
 ·refine At.seq (At.region (At.d R R R R (jd (x:=(.tv (kInt .i64) (0:Int))) (ji _ _)) ?_))
  refine At.done (At.vh (At.block ?_))
  obtain ⟨n1,hF⟩:=hF
  refine At.w [] R [(0,(.tv (kSlice kStr) l1)),(3,(.tv (kInt .i64) (0:Int)))] ⟨R,R,trivial⟩ ?_
  refine At.loop (fun m rs L=>∃ (i6:Int),W.iter1 (border_compare.l1 l1 (border_compare.c1)) m i6 Q∧rs=[]∧L=mkL [(0,(.tv (kSlice kStr) l1)),(3,(.tv (kInt .i64) i6))]) ?_ ?_ (m:=n1) ⟨(0:Int),hF,R,R⟩
  ·rintro rs L ⟨_,hF,_,_⟩;exact hF
  ·rintro m1 _ _ ⟨i6,hF,rfl,rfl⟩
   replace hF:=W.iter1_s hF
   unfold border_compare.l1 at hF
   refine At.seq (At.seq (At.region (At.d R R R R (jb (x:=(.tv (kInt .i64) i6)) (ja R)) ?_)))
   refine At.d R R R R (jk (ja R) (ji _ _) vc) ?_
   refine At.d R R R R (jb (x:=(.tv (kSlice kStr) l1)) (ja R)) ?_
   refine At.d R R R R (js (ja R) Tryz.underlying41) ?_
   refine At.d R R R R (jk (ja R) (ja R) vd) ?_
   refine At.done (At.vh ?_)
   refine At.cond (ja R) (fun hb9=>?_) (fun hb9=>?_)
   ·replace hF:=W.ite_t hb9 hF
    refine At.skip (At.vh (At.seq (At.block (At.seq ?_))))
    refine At.draw mixed [] R [] (fun φ w hgd=>?_)
    obtain ⟨hq9,hF⟩:=hF
    obtain ⟨hq10,hF⟩:=hF
    replace hF:=W.vm hF
    refine AtH.take [] hgd 0 R R R R (D':=#[Y,N,N,N,N,N,N,N,N,N,N]) (by kernel_rfl) (fun _ _ _ _ h=>h) R (jb (x:=(.tv (kSlice kStr) l1)) (ja R)) ?_
    refine AtH.take [] hgd 1 R R R R (D':=#[Y,Y,N,N,N,N,N,N,N,N,N]) (by kernel_rfl) (fun _ _ _ _ h=>h) R (jb (x:=(.tv (kInt .i64) i6)) (ja R)) ?_
    refine AtH.take [] hgd 2 R R R R (D':=#[Y,Y,Y,N,N,N,N,N,N,N,N]) (by kernel_rfl) (fun _ _ _ _ h=>h) R (vf (⟨#[]⟩:BA) (ja R) (ja R) Tryz.underlying41 ty_9 hq9) ?_
    refine AtH.take [] hgd 3 R R R R (D':=#[Y,Y,Y,Y,N,N,N,N,N,N,N]) (by kernel_rfl) (fun _ _ _ _ h=>h) R (vq (K:=kStr) (ja R) ty_9) ?_
    refine AtH.take [] hgd 4 R R R R (D':=#[Y,Y,Y,Y,Y,N,N,N,N,N,N]) (by kernel_rfl) (fun _ _ _ _ h=>h) R (jb (x:=(.tv (kSlice kStr) l1)) (ja R)) ?_
    refine AtH.take [] hgd 5 R R R R (D':=#[Y,Y,Y,Y,Y,Y,N,N,N,N,N]) (by kernel_rfl) (fun _ _ _ _ h=>h) R (jb (x:=(.tv (kInt .i64) i6)) (ja R)) ?_
    refine AtH.take [] hgd 6 R R R R (D':=#[Y,Y,Y,Y,Y,Y,Y,N,N,N,N]) (by kernel_rfl) (fun _ _ _ _ h=>h) R (jk (ja R) (ji _ _) vc) ?_
    refine AtH.take [] hgd 7 R R R R (D':=#[Y,Y,Y,Y,Y,Y,Y,Y,N,N,N]) (by kernel_rfl) (fun _ _ _ _ h=>h) R (vf (⟨#[]⟩:BA) (ja R) (ja R) Tryz.underlying41 ty_9 hq10) ?_
    refine AtH.take [] hgd 8 R R R R (D':=#[Y,Y,Y,Y,Y,Y,Y,Y,Y,N,N]) (by kernel_rfl) (fun _ _ _ _ h=>h) R (vq (K:=kStr) (ja R) ty_9) ?_
    refine AtH.all1 9 (by kernel_rfl) ?_
    refine AtH.f [] R R R R R R (jn R R jp (jq R en_73 (jf (ja R) (jf (ja R) jg))) (cmp_Compare_string.ok hF) (by rintro _ _ ⟨r,_,rfl,_⟩;exact flat_int)) (D':=#[Y,Y,Y,Y,Y,Y,Y,Y,Y,Y,N]) (by kernel_rfl) (by kernel_rfl) ?_
    rintro _ _ ⟨_,_,⟨r5,hF,rfl,rfl⟩,rfl,rfl⟩
    refine ⟨_,.inr ⟨R,flat_int⟩,?_⟩
    refine AtH.take [] hgd 10 R R R R (D':=#[Y,Y,Y,Y,Y,Y,Y,Y,Y,Y,Y]) (by kernel_rfl) (fun _ _ _ _ h=>h) R (jd (x:=(.tv (kInt .i64) r5)) (ja R)) ?_
    refine AtH.done (by kernel_rfl) ?_
    refine At.vh (At.seq (At.region (At.d R R R R (jb (x:=(.tv (kInt .i64) r5)) (ja R)) ?_)))
    refine At.d R R R R (jk (ja R) (ji _ _) bin_neq) ?_
    refine At.done (At.vh ?_)
    refine At.cond (ja R) (fun hb10=>?_) (fun hb10=>?_)
    ·replace hF:=W.ite_t hb10 hF
     refine At.seq (At.region (At.d R R R R (jb (x:=(.tv (kInt .i64) r5)) (ja R)) ?_))
     refine At.d R R R R (jd (x:=(.tv (kInt .i64) r5)) (ja R)) ?_
     refine At.done (At.vh (At.ret ?_))
     refine At.q ?_
     refine At.vi (At.vi ?_)
     refine At.q ?_
     refine At.vi ?_
     exact At.j rfl (rv_tmp rfl) [] rfl ⟨r5,hF,rfl,rfl⟩
    ·replace hF:=W.ite_f hb10 hF
     refine At.skip ?_
     refine At.n ?_
     refine At.vh (At.region (At.d R R R R (jb (x:=(.tv (kInt .i64) i6)) (ja R)) ?_))
     refine At.d R R R R (jk (ja R) (ji _ _) vc) ?_
     refine At.d R R R R (jd (x:=(.tv (kInt .i64) (w64 (i6+(2:Int))))) (ja R)) ?_
     refine At.done (At.vh ?_)
     refine At.w [] R [(0,(.tv (kSlice kStr) l1)),(3,(.tv (kInt .i64) (w64 (i6+(2:Int)))))] ⟨R,R,trivial⟩ (At.r ⟨(w64 (i6+(2:Int))),hF,R,R⟩)
   ·replace hF:=W.ite_f hb9 hF
    refine At.exit ?_
    refine At.x (At.x ?_)
    refine At.h ?_
    refine At.vh ?_
    refine At.w [] R [] trivial (At.r ⟨(),hF,R,R⟩)
 ·rintro _ _ ⟨_,hF,rfl,rfl⟩
  unfold border_compare.c1 at hF
  refine At.seq (At.region (At.d R R R R (jd (x:=(.tv (kInt .i64) (0:Int))) (ji _ _)) ?_))
  refine At.done (At.vh (At.ret ?_))
  exact At.j rfl (rv_tmp rfl) [] rfl ⟨(0:Int),hF,rfl,rfl⟩
def border_parcel_lines_1.F (a1:border_line) (b1:border_line):W Int:=W.bind (border_compare.F ([a1.nodes.1,b1.nodes.1,a1.nodes.2,b1.nodes.2]:List BA)) (fun r1=>W.ret r1)
theorem border_parcel_lines_1.ok {a1:border_line} {b1:border_line} {Q:Int→Prop} (hF:border_parcel_lines_1.F a1 b1 Q):Con Tryz.prog 67 [.tv kborder_line a1,.tv kborder_line b1] [] (fun ta rs'=>∃ (r:Int),Q r∧ta=.tv (kInt .i64) r∧rs'=[]):=by
 refine Con.i Tryz.func67 Tryz.ntmps67 R R (fun C=>?_)
 unfold border_parcel_lines_1.F at hF
 refine At.seq (At.region (At.f R (jw R R R (ja R)) ?_))
 rintro _ _ ⟨g1,rfl,rfl⟩
 refine At.f R (jw R R R (ja R)) ?_
 rintro _ _ ⟨g2,rfl,rfl⟩
 refine At.d R R R R (jd (x:=(.tv (kInt .i64) (0:Int))) (ji _ _)) ?_
 refine At.done (At.vh (At.seq (At.region (At.d R R R R (je (ja R) fa_82_0) ?_))))
 refine At.d R R R R (does_aidx_box (ja R) (ji _ _) ia_50_0) ?_
 refine At.d R R R R (jc (ja R) 1 R sub_border_line_0_0 ty_9) ?_
 refine At.d R R R R (je (ja R) fa_82_0) ?_
 refine At.d R R R R (does_aidx_box (ja R) (ji _ _) ia_50_0) ?_
 refine At.d R R R R (jc (ja R) 0 R sub_border_line_0_0 ty_9) ?_
 refine At.d R R R R (je (ja R) fa_82_0) ?_
 refine At.d R R R R (does_aidx_box (ja R) (ji _ _) ia_50_1) ?_
 refine At.d R R R R (jc (ja R) 1 R sub_border_line_0_1 ty_9) ?_
 refine At.d R R R R (je (ja R) fa_82_0) ?_
 refine At.d R R R R (does_aidx_box (ja R) (ji _ _) ia_50_1) ?_
 refine At.d R R R R (jc (ja R) 0 R sub_border_line_0_1 ty_9) ?_
 refine At.f R (jy R R R (os:=[.tmp 7,.tmp 10,.tmp 13,.tmp 16]) R sl_41 (xs:=([a1.nodes.1,b1.nodes.1,a1.nodes.2,b1.nodes.2]:List BA)) (jf (ja R) (jf (ja R) (jf (ja R) (jf (ja R) jg)))) R R) ?_
 rintro _ _ ⟨v1,rfl,rfl⟩
 replace hF:=W.vm hF
 refine At.f R (jn R R (lends_row 0 17 R R jp) (jq R en_68 (jf (ja R) jg)) (border_compare.ok hF) (by rintro _ _ ⟨r,_,rfl,_⟩;exact flat_int)) ?_
 rintro _ _ ⟨_,_,⟨r1,hF,rfl,rfl⟩,rfl,rfl⟩
 refine At.d R R R R (jd (x:=(.tv (kInt .i64) r1)) (ja R)) ?_
 refine At.done (At.vh (At.ret ?_))
 exact At.j rfl (rv_tmp rfl) [] rfl ⟨r1,hF,rfl,rfl⟩
def slices_SortFunc_border_line_border_line__o_border_parcel_lines_1.F (x:(List border_line)):W (List border_line):=W.sort (fun a b=>border_parcel_lines_1.F a b) x W.ret
theorem slices_SortFunc_border_line_border_line__o_border_parcel_lines_1.ok {x:(List border_line)} {u:Value} {Q:(List border_line)→Prop} (hF:slices_SortFunc_border_line_border_line__o_border_parcel_lines_1.F x Q):Con Tryz.prog 66 [.eq u,.cls 67 0 (tupl [])] [.row u 82 kborder_line x] (fun ta rs'=>∃ (r:(List border_line)),Q r∧ta=.eq (.tuple #[])∧rs'=[.row u 82 kborder_line r]):=by
 obtain ⟨hl,cf,hO,hc,hk⟩:=hF
 exact (con_sortFunc Tryz.sort66 rfl rfl ty_82 en_67 (fun a b ha hb=>(border_parcel_lines_1.ok (hc a b ha hb)).mono (by rintro ta rs' ⟨r,rfl,rfl,rfl⟩;rfl)) hO hl).mono (by rintro ta rs' ⟨ys,hp,hs,rfl,rfl⟩;exact ⟨ys,hk ys hp hs,rfl,rfl⟩)
def vw.c2 (x19:(List border_line)):W (List border_line):=W.bind (slices_SortFunc_border_line_border_line__o_border_parcel_lines_1.F x19) (fun r7=>W.ret r7)
def vw.l1 (K2:(List border_line)→W (List border_line)) (A1:(List border_line)→(List ((BA×BA)×(List BA)))→W (List border_line)) (x24:(List border_line)) (x25:(List ((BA×BA)×(List BA)))):W (List border_line):=W.next x25 (((⟨#[]⟩:BA),(⟨#[]⟩:BA)),([]:List BA)) (fun b11 e11 l5=>W.ite b11 (W.req (b11=true) (W.req ((x24.length+([(⟨e11.1,e11.2⟩:border_line)]:List border_line).length)*56≤140737488355328∧x24.length+([(⟨e11.1,e11.2⟩:border_line)]:List border_line).length≤140737488355328) (A1 (x24++([(⟨e11.1,e11.2⟩:border_line)]:List border_line)) l5))) (K2 x24))
def vw.c1 (x12:(List ((BA×BA)×(List BA)))):W (List border_line):=W.req (0≤(x12.length:Int)∧(x12.length:Int)*56≤140737488355328∧(x12.length:Int)≤140737488355328) (W.ex fun n=>W.iter2 (vw.l1 (vw.c2)) n ([]:List border_line) x12)
def vw.c3 (t18:Int) (A2:(List ((BA×BA)×(List BA)))→Int→W (List border_line)) (x40:(List ((BA×BA)×(List BA)))):W (List border_line):=A2 x40 (w64 (t18+(1:Int)))
def vw.l3 (p1:border_parcel) (t18:Int) (K3:(List ((BA×BA)×(List BA)))→W (List border_line)) (A3:(List ((BA×BA)×(List BA)))→Int→W (List border_line)) (x43:(List ((BA×BA)×(List BA)))) (t24:Int):W (List border_line):=W.ite (decide (t24<(((rd zObject p1.m.Objects t18).Refs).length:Int))) (W.req (0≤t24∧t24<(((rd zObject p1.m.Objects t18).Refs).length:Int)) (W.ite (((w64 (t24+(1:Int)))==(((rd zObject p1.m.Objects t18).Refs).length:Int))&&(((rd zObject p1.m.Objects t18).Kind)==(2:Int))) (K3 x43) (W.req ((((rd zObject p1.m.Objects t18).Refs).length:Int)≠0) (W.req (0≤(Int.tmod (w64 (t24+(1:Int))) (((rd zObject p1.m.Objects t18).Refs).length:Int))∧(Int.tmod (w64 (t24+(1:Int))) (((rd zObject p1.m.Objects t18).Refs).length:Int))<(((rd zObject p1.m.Objects t18).Refs).length:Int)) (W.bind (Jh.F (mget ((sMin (rd (⟨#[]⟩:BA) ((rd zObject p1.m.Objects t18).Refs) t24) (rd (⟨#[]⟩:BA) ((rd zObject p1.m.Objects t18).Refs) (Int.tmod (w64 (t24+(1:Int))) (((rd zObject p1.m.Objects t18).Refs).length:Int)))),(sMax (rd (⟨#[]⟩:BA) ((rd zObject p1.m.Objects t18).Refs) t24) (rd (⟨#[]⟩:BA) ((rd zObject p1.m.Objects t18).Refs) (Int.tmod (w64 (t24+(1:Int))) (((rd zObject p1.m.Objects t18).Refs).length:Int))))) ([]:List BA) x43) ((rd zObject p1.m.Objects t18).Id)) (fun r20=>W.ite (!r20) (W.req (((mget ((sMin (rd (⟨#[]⟩:BA) ((rd zObject p1.m.Objects t18).Refs) t24) (rd (⟨#[]⟩:BA) ((rd zObject p1.m.Objects t18).Refs) (Int.tmod (w64 (t24+(1:Int))) (((rd zObject p1.m.Objects t18).Refs).length:Int)))),(sMax (rd (⟨#[]⟩:BA) ((rd zObject p1.m.Objects t18).Refs) t24) (rd (⟨#[]⟩:BA) ((rd zObject p1.m.Objects t18).Refs) (Int.tmod (w64 (t24+(1:Int))) (((rd zObject p1.m.Objects t18).Refs).length:Int))))) ([]:List BA) x43).length+([(rd zObject p1.m.Objects t18).Id]:List BA).length)*16≤140737488355328∧(mget ((sMin (rd (⟨#[]⟩:BA) ((rd zObject p1.m.Objects t18).Refs) t24) (rd (⟨#[]⟩:BA) ((rd zObject p1.m.Objects t18).Refs) (Int.tmod (w64 (t24+(1:Int))) (((rd zObject p1.m.Objects t18).Refs).length:Int)))),(sMax (rd (⟨#[]⟩:BA) ((rd zObject p1.m.Objects t18).Refs) t24) (rd (⟨#[]⟩:BA) ((rd zObject p1.m.Objects t18).Refs) (Int.tmod (w64 (t24+(1:Int))) (((rd zObject p1.m.Objects t18).Refs).length:Int))))) ([]:List BA) x43).length+([(rd zObject p1.m.Objects t18).Id]:List BA).length≤140737488355328) (A3 (mset ((sMin (rd (⟨#[]⟩:BA) ((rd zObject p1.m.Objects t18).Refs) t24) (rd (⟨#[]⟩:BA) ((rd zObject p1.m.Objects t18).Refs) (Int.tmod (w64 (t24+(1:Int))) (((rd zObject p1.m.Objects t18).Refs).length:Int)))),(sMax (rd (⟨#[]⟩:BA) ((rd zObject p1.m.Objects t18).Refs) t24) (rd (⟨#[]⟩:BA) ((rd zObject p1.m.Objects t18).Refs) (Int.tmod (w64 (t24+(1:Int))) (((rd zObject p1.m.Objects t18).Refs).length:Int))))) ((mget ((sMin (rd (⟨#[]⟩:BA) ((rd zObject p1.m.Objects t18).Refs) t24) (rd (⟨#[]⟩:BA) ((rd zObject p1.m.Objects t18).Refs) (Int.tmod (w64 (t24+(1:Int))) (((rd zObject p1.m.Objects t18).Refs).length:Int)))),(sMax (rd (⟨#[]⟩:BA) ((rd zObject p1.m.Objects t18).Refs) t24) (rd (⟨#[]⟩:BA) ((rd zObject p1.m.Objects t18).Refs) (Int.tmod (w64 (t24+(1:Int))) (((rd zObject p1.m.Objects t18).Refs).length:Int))))) ([]:List BA) x43)++([(rd zObject p1.m.Objects t18).Id]:List BA)) x43) (w64 (t24+(1:Int))))) (A3 x43 (w64 (t24+(1:Int)))))))))) (K3 x43)
def vw.l2 (p1:border_parcel) (K1:(List ((BA×BA)×(List BA)))→W (List border_line)) (A2:(List ((BA×BA)×(List BA)))→Int→W (List border_line)) (x36:(List ((BA×BA)×(List BA)))) (t18:Int):W (List border_line):=W.ite (decide (t18<(p1.m.Objects.length:Int))) (W.req (0≤t18∧t18<(p1.m.Objects.length:Int)) (W.bind (W.ite (!((((rd zObject p1.m.Objects t18).Kind) != (2:Int))&&(((rd zObject p1.m.Objects t18).Kind) != (3:Int)))) (border_parcel_nodes.F p1 (rd zObject p1.m.Objects t18)) (W.ret false)) (fun r17=>W.ite (((((rd zObject p1.m.Objects t18).Kind) != (2:Int))&&(((rd zObject p1.m.Objects t18).Kind) != (3:Int)))||(!r17)) ((vw.c3 t18 A2) x36) (W.ex fun n=>W.iter2 (vw.l3 p1 t18 (vw.c3 t18 A2)) n x36 (0:Int))))) (K1 x36)
def vw.F (p1:border_parcel):W (List border_line):=W.ex fun n=>W.iter2 (vw.l2 p1 (vw.c1)) n ([]:(List ((BA×BA)×(List BA)))) (0:Int)
theorem vw.ok {p1:border_parcel} {Q:(List border_line)→Prop} (hF:vw.F p1 Q):Con Tryz.prog 31 [.tv kborder_parcel p1] [] (fun ta rs'=>∃ (r:(List border_line)) (u0:Value),Q r∧ta=.eq u0∧rs'=[.row u0 82 kborder_line r]):=by
 refine Con.i Tryz.func31 Tryz.ntmps31 R R (fun C=>?_)
 unfold vw.F at hF
 refine At.seq (At.region (At.f R (jw R R R (ja R)) ?_))
 rintro _ _ ⟨g1,rfl,rfl⟩
 refine At.d R R R R (jd (x:=(.eq (.slice none 0 0))) (opd_eq _)) ?_
 refine At.done (At.vh (At.seq (At.region (At.f R (eff_makeMapR R R R (kPair kStr kStr) 9 kStr) ?_))))
 rintro _ _ ⟨g2,rfl,rfl⟩
 refine At.d R R R R (jd (x:=(.eq (.map (some g2)))) (ja R)) ?_
 refine At.done (At.vh ?_)
 refine At.cut (fun rs L=>∃ (x12:(List ((BA×BA)×(List BA)))) (w20:List Value),vw.c1 x12 Q∧rs=[.mrow g2 (kPair kStr kStr) 9 kStr w20 x12]∧L=mkL [(3,(.eq (.map (some g2))))]) ?_ ?_
 ·refine At.seq (At.region (At.d R R R R (je (ja R) fa_76_0) ?_))
  refine At.d R R R R (je (ja R) fa_24_0) ?_
  refine At.d R R R R (jc (ja R) 1 R sub_border_parcel_0_0 ty_22) ?_
  refine At.d R R R R (js (ja R) Tryz.underlying22) ?_
  refine At.d R R R R (jb (x:=(.tv (kInt .i64) (0:Int))) (ji _ _)) ?_
  refine At.done (At.vh (At.block ?_))
  obtain ⟨n3,hF⟩:=hF
  refine At.w [1,0] R [(1,(.eq (.pointer (some ⟨g1,0,none⟩)))),(3,(.eq (.map (some g2)))),(17,(.tv (kSlice kObject) p1.m.Objects)),(18,(.tv (kInt .i64) (p1.m.Objects.length:Int))),(19,(.tv (kInt .i64) (0:Int)))] ⟨R,R,R,R,R,trivial⟩ ?_
  refine At.loop (fun m rs L=>∃ (x36:(List ((BA×BA)×(List BA)))) (w39:List Value) (t18:Int),W.iter2 (vw.l2 p1 (vw.c1)) m x36 t18 Q∧rs=[.box g1 76 kborder_parcel p1,.mrow g2 (kPair kStr kStr) 9 kStr w39 x36]∧L=mkL [(1,(.eq (.pointer (some ⟨g1,0,none⟩)))),(3,(.eq (.map (some g2)))),(17,(.tv (kSlice kObject) p1.m.Objects)),(18,(.tv (kInt .i64) (p1.m.Objects.length:Int))),(19,(.tv (kInt .i64) t18))]) ?_ ?_ (m:=n3) ⟨([]:(List ((BA×BA)×(List BA)))),[],(0:Int),hF,R,R⟩
  ·rintro rs L ⟨_,_,_,hF,_,_⟩;exact hF
  ·rintro m2 _ _ ⟨x36,w39,t18,hF,rfl,rfl⟩
   replace hF:=W.iter2_s hF
   unfold vw.l2 at hF
   refine At.seq (At.region (At.d R R R R (jk (ja R) (ja R) vd) ?_))
   refine At.done (At.vh (At.seq ?_))
   refine At.cond (ja R) (fun hb38=>?_) (fun hb38=>?_)
   ·replace hF:=W.ite_t hb38 hF
    refine At.skip (At.vh ?_)
    refine At.cut (fun rs L=>∃ (x40:(List ((BA×BA)×(List BA)))) (w47:List Value),vw.c3 t18 (W.iter2 (vw.l2 p1 (vw.c1)) m2) x40 Q∧rs=[.box g1 76 kborder_parcel p1,.mrow g2 (kPair kStr kStr) 9 kStr w47 x40]∧L=mkL [(1,(.eq (.pointer (some ⟨g1,0,none⟩)))),(3,(.eq (.map (some g2)))),(17,(.tv (kSlice kObject) p1.m.Objects)),(18,(.tv (kInt .i64) (p1.m.Objects.length:Int))),(19,(.tv (kInt .i64) t18))]) ?_ ?_
    ·refine At.block (At.seq (At.region ?_))
     obtain ⟨hq57,hF⟩:=hF
     refine At.d R R R R (vf zObject (ja R) (ja R) Tryz.underlying22 ty_59 hq57) ?_
     refine At.d R R R R (vq (K:=kObject) (ja R) ty_59) ?_
     refine At.f R (eff_alloc R R R tz_59) ?_
     rintro _ _ ⟨g25,rfl,rfl⟩
     refine At.f R (jx R R (ja R) 0 R (Sub.self kObject) ty_59 (ja R)) ?_
     rintro _ _ ⟨rfl,rfl⟩
     refine At.done (At.vh (At.seq (At.seq (At.region (At.d R R R R (je (ja R) fa_59_1) ?_)))))
     refine At.d R R R R (jc (ja R) 0 R sub_Object_1 ty_3) ?_
     refine At.d R R R R (jk (ja R) (ji _ _) bin_neq) ?_
     refine At.d R R R R (jb (x:=(.tv kBool (((rd zObject p1.m.Objects t18).Kind) != (2:Int)))) (ja R)) ?_
     refine At.vj R R R R (ju R) R (fun hg66=>(je (ja R) fa_59_1)) ?_
     refine At.vj R R R R (ju R) R (fun hg67=>(jc (jh R hg67) 0 R sub_Object_1 ty_3)) ?_
     refine At.vj R R R R (ju R) R (fun hg68=>(jk (jh R hg68) (ji _ _) bin_neq)) ?_
     refine At.d R R R R (jm (ja R) (ja R) (jl _) ve) ?_
     refine At.d R R R R (jb (x:=(.tv kBool ((((rd zObject p1.m.Objects t18).Kind) != (2:Int))&&(((rd zObject p1.m.Objects t18).Kind) != (3:Int))))) (ja R)) ?_
     refine At.vj R R R R (jv R) R (fun hg69=>(jc (ja R) 1 R (Sub.self kborder_parcel) ty_76)) ?_
     refine At.vj R R R R (jv R) R (fun hg70=>(jc (ja R) 0 R (Sub.self kObject) ty_59)) ?_
     replace hF:=W.vm hF
     refine At.effG R R R R (jv R) hF (fun r=>.tv kBool r) (fun hg71 hF=>eff_of (jn R R jp (jq R en_65 (jf (jh R hg71) (jf (jh R hg71) jg))) (border_parcel_nodes.ok hF) (by rintro _ _ ⟨r,_,rfl,_⟩;exact vl)) (by rintro _ _ ⟨_,_,⟨r,hF,rfl,rfl⟩,rfl,rfl⟩;exact ⟨r,hF,R,R⟩)) (fun r17 hF=>?_)
     refine At.vj R R R R (jv R) R (fun hg72=>(does_not (jh R hg72))) ?_
     refine At.d R R R R (jm (ja R) (jl _) (ja R) pick_or) ?_
     refine At.done (At.vh ?_)
     refine At.cond (ja R) (fun hb46=>?_) (fun hb46=>?_)
     ·replace hF:=W.ite_t hb46 hF
      refine At.exit ?_
      refine At.x ?_
      refine At.h ?_
      refine At.vh ?_
      refine At.w [1,2] R [(1,(.eq (.pointer (some ⟨g1,0,none⟩)))),(3,(.eq (.map (some g2)))),(17,(.tv (kSlice kObject) p1.m.Objects)),(18,(.tv (kInt .i64) (p1.m.Objects.length:Int))),(19,(.tv (kInt .i64) t18))] ⟨R,R,R,R,R,trivial⟩ (At.r ⟨x36,w39,hF,R,R⟩)
     ·replace hF:=W.ite_f hb46 hF
      refine At.skip (At.vh (At.seq (At.region (At.d R R R R (je (ja R) fa_59_3) ?_))))
      refine At.d R R R R (jc (ja R) 0 R sub_Object_3 ty_41) ?_
      refine At.d R R R R (js (ja R) Tryz.underlying41) ?_
      refine At.d R R R R (jb (x:=(.tv (kInt .i64) (0:Int))) (ji _ _)) ?_
      refine At.done (At.vh (At.block ?_))
      obtain ⟨n2,hF⟩:=hF
      refine At.w [1,2,0] R [(1,(.eq (.pointer (some ⟨g1,0,none⟩)))),(3,(.eq (.map (some g2)))),(5,(.eq (.pointer (some ⟨g25,0,none⟩)))),(17,(.tv (kSlice kObject) p1.m.Objects)),(18,(.tv (kInt .i64) (p1.m.Objects.length:Int))),(19,(.tv (kInt .i64) t18)),(38,(.tv (kSlice kStr) ((rd zObject p1.m.Objects t18).Refs))),(39,(.tv (kInt .i64) (((rd zObject p1.m.Objects t18).Refs).length:Int))),(40,(.tv (kInt .i64) (0:Int)))] ⟨R,R,R,R,R,R,R,R,R,trivial⟩ ?_
      refine At.loop (fun m rs L=>∃ (x43:(List ((BA×BA)×(List BA)))) (w54:List Value) (t24:Int),W.iter2 (vw.l3 p1 t18 (vw.c3 t18 (W.iter2 (vw.l2 p1 (vw.c1)) m2))) m x43 t24 Q∧rs=[.box g1 76 kborder_parcel p1,.mrow g2 (kPair kStr kStr) 9 kStr w54 x43,.box g25 59 kObject (rd zObject p1.m.Objects t18)]∧L=mkL [(1,(.eq (.pointer (some ⟨g1,0,none⟩)))),(3,(.eq (.map (some g2)))),(5,(.eq (.pointer (some ⟨g25,0,none⟩)))),(17,(.tv (kSlice kObject) p1.m.Objects)),(18,(.tv (kInt .i64) (p1.m.Objects.length:Int))),(19,(.tv (kInt .i64) t18)),(38,(.tv (kSlice kStr) ((rd zObject p1.m.Objects t18).Refs))),(39,(.tv (kInt .i64) (((rd zObject p1.m.Objects t18).Refs).length:Int))),(40,(.tv (kInt .i64) t24))]) ?_ ?_ (m:=n2) ⟨x36,w39,(0:Int),hF,R,R⟩
      ·rintro rs L ⟨_,_,_,hF,_,_⟩;exact hF
      ·rintro m3 _ _ ⟨x43,w54,t24,hF,rfl,rfl⟩
       replace hF:=W.iter2_s hF
       unfold vw.l3 at hF
       refine At.seq (At.region (At.d R R R R (jk (ja R) (ja R) vd) ?_))
       refine At.done (At.vh (At.seq ?_))
       refine At.cond (ja R) (fun hb53=>?_) (fun hb53=>?_)
       ·replace hF:=W.ite_t hb53 hF
        refine At.skip (At.vh (At.seq (At.block (At.seq (At.region (At.d R R R R (jb (x:=(.tv (kInt .i64) t24)) (ja R)) ?_))))))
        obtain ⟨hq66,hF⟩:=hF
        refine At.d R R R R (vf (⟨#[]⟩:BA) (ja R) (ja R) Tryz.underlying41 ty_9 hq66) ?_
        refine At.d R R R R (vq (K:=kStr) (ja R) ty_9) ?_
        refine At.d R R R R (jd (x:=(.tv (kInt .i64) t24)) (ja R)) ?_
        refine At.d R R R R (jd (x:=(.tv kStr (rd (⟨#[]⟩:BA) ((rd zObject p1.m.Objects t18).Refs) t24))) (ja R)) ?_
        refine At.done (At.vh (At.seq (At.region (At.d R R R R (jb (x:=(.tv (kInt .i64) t24)) (ja R)) ?_))))
        refine At.d R R R R (jk (ja R) (ji _ _) vc) ?_
        refine At.d R R R R (jd (x:=(.tv (kInt .i64) (w64 (t24+(1:Int))))) (ja R)) ?_
        refine At.done (At.vh (At.seq (At.seq (At.region (At.d R R R R (jb (x:=(.tv (kInt .i64) (w64 (t24+(1:Int))))) (ja R)) ?_)))))
        refine At.d R R R R (je (ja R) fa_59_3) ?_
        refine At.d R R R R (jc (ja R) 2 R sub_Object_3 ty_41) ?_
        refine At.d R R R R (js (ja R) Tryz.underlying41) ?_
        refine At.d R R R R (jk (ja R) (ja R) bin_eql) ?_
        refine At.d R R R R (jb (x:=(.tv kBool ((w64 (t24+(1:Int)))==(((rd zObject p1.m.Objects t18).Refs).length:Int)))) (ja R)) ?_
        refine At.vj R R R R (ju R) R (fun hg79=>(je (ja R) fa_59_1)) ?_
        refine At.vj R R R R (ju R) R (fun hg80=>(jc (jh R hg80) 2 R sub_Object_1 ty_3)) ?_
        refine At.vj R R R R (ju R) R (fun hg81=>(jk (jh R hg81) (ji _ _) bin_eql)) ?_
        refine At.d R R R R (jm (ja R) (ja R) (jl _) ve) ?_
        refine At.done (At.vh ?_)
        refine At.cond (ja R) (fun hb54=>?_) (fun hb54=>?_)
        ·replace hF:=W.ite_t hb54 hF
         refine At.exit ?_
         refine At.x ?_
         refine At.block_there R ?_
         refine At.x (At.x ?_)
         refine At.h ?_
         refine At.n ?_
         refine At.vh ?_
         refine At.w [0,1] R [(1,(.eq (.pointer (some ⟨g1,0,none⟩)))),(3,(.eq (.map (some g2)))),(17,(.tv (kSlice kObject) p1.m.Objects)),(18,(.tv (kInt .i64) (p1.m.Objects.length:Int))),(19,(.tv (kInt .i64) t18))] ⟨R,R,R,R,R,trivial⟩ (At.r ⟨x43,w54,hF,R,R⟩)
        ·replace hF:=W.ite_f hb54 hF
         refine At.skip (At.vh (At.seq ?_))
         refine At.draw mixed [0,1,2] R [[],[],[]] (fun φ w hgd=>?_)
         obtain ⟨hq67,hF⟩:=hF
         obtain ⟨hq68,hF⟩:=hF
         refine AtH.take [0,1,2] hgd 0 R R R R (D':=#[Y,N,N,N,N,N,N,N,N,N]) (by kernel_rfl) (fun _ _ _ _ h=>h) R (je (ja R) fa_59_3) ?_
         refine AtH.take [0,1,2] hgd 1 R R R R (D':=#[Y,Y,N,N,N,N,N,N,N,N]) (by kernel_rfl) (fun _ _ _ _ h=>h) R (jc (ja R) 2 R sub_Object_3 ty_41) ?_
         refine AtH.take [0,1,2] hgd 2 R R R R (D':=#[Y,Y,Y,N,N,N,N,N,N,N]) (by kernel_rfl) (fun _ _ _ _ h=>h) R (jb (x:=(.tv (kInt .i64) (w64 (t24+(1:Int))))) (ja R)) ?_
         refine AtH.take [0,1,2] hgd 3 R R R R (D':=#[Y,Y,Y,Y,N,N,N,N,N,N]) (by kernel_rfl) (fun _ _ _ _ h=>h) R (je (ja R) fa_59_3) ?_
         refine AtH.take [0,1,2] hgd 4 R R R R (D':=#[Y,Y,Y,Y,Y,N,N,N,N,N]) (by kernel_rfl) (fun _ _ _ _ h=>h) R (jc (ja R) 2 R sub_Object_3 ty_41) ?_
         refine AtH.take [0,1,2] hgd 5 R R R R (D':=#[Y,Y,Y,Y,Y,Y,N,N,N,N]) (by kernel_rfl) (fun _ _ _ _ h=>h) R (js (ja R) Tryz.underlying41) ?_
         refine AtH.take [0,1,2] hgd 6 R R R R (D':=#[Y,Y,Y,Y,Y,Y,Y,N,N,N]) (by kernel_rfl) (fun _ _ _ _ h=>h) R (jk (ja R) (ja R) (bin_rem hq67)) ?_
         refine AtH.take [0,1,2] hgd 7 R R R R (D':=#[Y,Y,Y,Y,Y,Y,Y,Y,N,N]) (by kernel_rfl) (fun _ _ _ _ h=>h) R (vf (⟨#[]⟩:BA) (ja R) (ja R) Tryz.underlying41 ty_9 hq68) ?_
         refine AtH.take [0,1,2] hgd 8 R R R R (D':=#[Y,Y,Y,Y,Y,Y,Y,Y,Y,N]) (by kernel_rfl) (fun _ _ _ _ h=>h) R (vq (K:=kStr) (ja R) ty_9) ?_
         refine AtH.take [0,1,2] hgd 9 R R R R (D':=#[Y,Y,Y,Y,Y,Y,Y,Y,Y,Y]) (by kernel_rfl) (fun _ _ _ _ h=>h) R (jd (x:=(.tv kStr (rd (⟨#[]⟩:BA) ((rd zObject p1.m.Objects t18).Refs) (Int.tmod (w64 (t24+(1:Int))) (((rd zObject p1.m.Objects t18).Refs).length:Int))))) (ja R)) ?_
         refine AtH.done (by kernel_rfl) ?_
         refine At.vh (At.seq (At.region (At.d R R R R (jb (x:=(.tv kStr (rd (⟨#[]⟩:BA) ((rd zObject p1.m.Objects t18).Refs) t24))) (ja R)) ?_)))
         refine At.d R R R R (jb (x:=(.tv kStr (rd (⟨#[]⟩:BA) ((rd zObject p1.m.Objects t18).Refs) (Int.tmod (w64 (t24+(1:Int))) (((rd zObject p1.m.Objects t18).Refs).length:Int))))) (ja R)) ?_
         refine At.d R R R R (does_smin (ja R) (ja R)) ?_
         refine At.d R R R R (jb (x:=(.tv kStr (rd (⟨#[]⟩:BA) ((rd zObject p1.m.Objects t18).Refs) t24))) (ja R)) ?_
         refine At.d R R R R (jb (x:=(.tv kStr (rd (⟨#[]⟩:BA) ((rd zObject p1.m.Objects t18).Refs) (Int.tmod (w64 (t24+(1:Int))) (((rd zObject p1.m.Objects t18).Refs).length:Int))))) (ja R)) ?_
         refine At.d R R R R (does_smax (ja R) (ja R)) ?_
         refine At.d R R R R (jz (jr (ja R) (jr (ja R) parts_nil)) zr_50 bd_50 R (fills_cons R sub_a50_0 (fills_cons R sub_a50_1 fills_nil))) ?_
         refine At.f R (eff_alloc R R R tz_50) ?_
         rintro _ _ ⟨g28,rfl,rfl⟩
         refine At.f R (jx R R (ja R) 0 R (Sub.self (kPair kStr kStr)) ty_50 (ja R)) ?_
         rintro _ _ ⟨rfl,rfl⟩
         refine At.done (At.vh (At.seq ?_))
         refine At.draw mixed [0,1,2,3] R [[],[],[2],[]] (fun φ w hgd=>?_)
         replace hF:=W.vm hF
         refine AtH.take [0,1,2,3] hgd 0 R R R R (D':=#[Y,N,N,N,N,N,N]) (by kernel_rfl) (fun _ _ _ _ h=>h) R (jb (x:=(.eq (.map (some g2)))) (ja R)) ?_
         refine AtH.take [0,1,2,3] hgd 1 R R R R (D':=#[Y,Y,N,N,N,N,N]) (by kernel_rfl) (fun _ _ _ _ h=>h) R (jc (ja R) 0 R (Sub.self (kPair kStr kStr)) ty_50) ?_
         refine AtH.take [0,1,3] hgd 3 R R R R (D':=#[Y,Y,N,Y,N,N,N]) (by kernel_rfl) (fun _ _ _ _ h=>h) R (je (ja R) fa_59_0) ?_
         refine AtH.take [0,1,3] hgd 4 R R R R (D':=#[Y,Y,N,Y,Y,N,N]) (by kernel_rfl) (fun _ _ _ _ h=>h) R (jc (ja R) 2 R sub_Object_0 ty_9) ?_
         refine AtH.all1 2 (by kernel_rfl) ?_
         refine AtH.f [(0,0),(1,1),(3,3)] R R R R R R (eff_lookR R R R (ja R) 2 R mtr_116 (ja R)) (D':=#[Y,Y,Y,Y,Y,N,N]) (by kernel_rfl) (by kernel_rfl) ?_
         rintro _ _ ⟨v80,j38,s38,rfl,rfl⟩
         refine ⟨_,.inr ⟨R,flat_eq⟩,?_⟩
         refine AtH.all1 5 (by kernel_rfl) ?_
         refine AtH.f [(0,1),(1,2),(3,4)] R R R R R R (jn R R (lends_row 0 75 R R jp) (jq R en_36 (jf (ja R) (jf (ja R) jg))) (Jh.ok hF) (by rintro _ _ ⟨r,_,rfl,_⟩;exact vl)) (D':=#[Y,Y,Y,Y,Y,Y,N]) (by kernel_rfl) (by kernel_rfl) ?_
         rintro _ _ ⟨_,_,⟨r20,hF,rfl,rfl⟩,rfl,rfl⟩
         refine ⟨_,.inr ⟨R,vl⟩,?_⟩
         refine AtH.take [0,1,3] hgd 6 R R R R (D':=#[Y,Y,Y,Y,Y,Y,Y]) (by kernel_rfl) (fun _ _ _ _ h=>h) R (does_not (ja R)) ?_
         refine AtH.done (by kernel_rfl) ?_
         refine At.vh ?_
         refine At.cond (ja R) (fun hb55=>?_) (fun hb55=>?_)
         ·replace hF:=W.ite_t hb55 hF
          refine At.region (At.d R R R R (jb (x:=(.eq (.map (some g2)))) (ja R)) ?_)
          refine At.d R R R R (jc (ja R) 1 R (Sub.self (kPair kStr kStr)) ty_50) ?_
          refine At.d R R R R (je (ja R) fa_59_0) ?_
          refine At.d R R R R (jc (ja R) 4 R sub_Object_0 ty_9) ?_
          refine At.f R (jy R R R (os:=[.tmp 84]) R sl_41 (xs:=([(rd zObject p1.m.Objects t18).Id]:List BA)) (jf (ja R) jg) R R) ?_
          rintro _ _ ⟨v81,rfl,rfl⟩
          refine At.mclose 4 1 R R R ?_
          refine At.f R (eff_mapEntry R R R (ja R) 4 R mtr_116 (ja R)) ?_
          rintro _ _ ⟨v82,w55,j39,s39,rfl,rfl⟩
          refine At.d R R R R (does_extract20 (ja R)) ?_
          obtain ⟨hq69,hF⟩:=hF
          refine At.f R (eff_append_row R R R 0 1 R R (ja R) (ja R) sl_41 hq69) ?_
          rintro _ _ ⟨v83,rfl,rfl⟩
          refine At.d R R R R (does_extract21 (ja R)) ?_
          refine At.f R (eff_entryStore R R (ja R) 5 0 R R (ja R) R (ja R)) ?_
          rintro _ _ ⟨w56,rfl,rfl⟩
          refine At.done ?_
          refine At.n ?_
          refine At.vh (At.region (At.d R R R R (jk (ja R) (ji _ _) vc) ?_))
          refine At.d R R R R (jb (x:=(.tv (kInt .i64) (w64 (t24+(1:Int))))) (ja R)) ?_
          refine At.done (At.vh ?_)
          refine At.w [4,5,6] R [(1,(.eq (.pointer (some ⟨g1,0,none⟩)))),(3,(.eq (.map (some g2)))),(5,(.eq (.pointer (some ⟨g25,0,none⟩)))),(17,(.tv (kSlice kObject) p1.m.Objects)),(18,(.tv (kInt .i64) (p1.m.Objects.length:Int))),(19,(.tv (kInt .i64) t18)),(38,(.tv (kSlice kStr) ((rd zObject p1.m.Objects t18).Refs))),(39,(.tv (kInt .i64) (((rd zObject p1.m.Objects t18).Refs).length:Int))),(40,(.tv (kInt .i64) (w64 (t24+(1:Int)))))] ⟨R,R,R,R,R,R,R,R,R,trivial⟩ (At.r ⟨(mset ((sMin (rd (⟨#[]⟩:BA) ((rd zObject p1.m.Objects t18).Refs) t24) (rd (⟨#[]⟩:BA) ((rd zObject p1.m.Objects t18).Refs) (Int.tmod (w64 (t24+(1:Int))) (((rd zObject p1.m.Objects t18).Refs).length:Int)))),(sMax (rd (⟨#[]⟩:BA) ((rd zObject p1.m.Objects t18).Refs) t24) (rd (⟨#[]⟩:BA) ((rd zObject p1.m.Objects t18).Refs) (Int.tmod (w64 (t24+(1:Int))) (((rd zObject p1.m.Objects t18).Refs).length:Int))))) ((mget ((sMin (rd (⟨#[]⟩:BA) ((rd zObject p1.m.Objects t18).Refs) t24) (rd (⟨#[]⟩:BA) ((rd zObject p1.m.Objects t18).Refs) (Int.tmod (w64 (t24+(1:Int))) (((rd zObject p1.m.Objects t18).Refs).length:Int)))),(sMax (rd (⟨#[]⟩:BA) ((rd zObject p1.m.Objects t18).Refs) t24) (rd (⟨#[]⟩:BA) ((rd zObject p1.m.Objects t18).Refs) (Int.tmod (w64 (t24+(1:Int))) (((rd zObject p1.m.Objects t18).Refs).length:Int))))) ([]:List BA) x43)++([(rd zObject p1.m.Objects t18).Id]:List BA)) x43),w56,(w64 (t24+(1:Int))),hF,R,R⟩)
         ·replace hF:=W.ite_f hb55 hF
          refine At.skip ?_
          refine At.n ?_
          refine At.vh (At.region (At.d R R R R (jk (ja R) (ji _ _) vc) ?_))
          refine At.d R R R R (jb (x:=(.tv (kInt .i64) (w64 (t24+(1:Int))))) (ja R)) ?_
          refine At.done (At.vh ?_)
          refine At.mclose 3 0 R R R ?_
          refine At.w [2,3,4] R [(1,(.eq (.pointer (some ⟨g1,0,none⟩)))),(3,(.eq (.map (some g2)))),(5,(.eq (.pointer (some ⟨g25,0,none⟩)))),(17,(.tv (kSlice kObject) p1.m.Objects)),(18,(.tv (kInt .i64) (p1.m.Objects.length:Int))),(19,(.tv (kInt .i64) t18)),(38,(.tv (kSlice kStr) ((rd zObject p1.m.Objects t18).Refs))),(39,(.tv (kInt .i64) (((rd zObject p1.m.Objects t18).Refs).length:Int))),(40,(.tv (kInt .i64) (w64 (t24+(1:Int)))))] ⟨R,R,R,R,R,R,R,R,R,trivial⟩ (At.r ⟨x43,w54,(w64 (t24+(1:Int))),hF,R,R⟩)
       ·replace hF:=W.ite_f hb53 hF
        refine At.exit ?_
        refine At.x (At.x ?_)
        refine At.h ?_
        refine At.n ?_
        refine At.vh ?_
        refine At.w [0,1] R [(1,(.eq (.pointer (some ⟨g1,0,none⟩)))),(3,(.eq (.map (some g2)))),(17,(.tv (kSlice kObject) p1.m.Objects)),(18,(.tv (kInt .i64) (p1.m.Objects.length:Int))),(19,(.tv (kInt .i64) t18))] ⟨R,R,R,R,R,trivial⟩ (At.r ⟨x43,w54,hF,R,R⟩)
    ·rintro _ _ ⟨x40,w47,hF,rfl,rfl⟩
     unfold vw.c3 at hF
     refine At.region (At.d R R R R (jk (ja R) (ji _ _) vc) ?_)
     refine At.d R R R R (jb (x:=(.tv (kInt .i64) (w64 (t18+(1:Int))))) (ja R)) ?_
     refine At.done (At.vh ?_)
     refine At.w [0,1] R [(1,(.eq (.pointer (some ⟨g1,0,none⟩)))),(3,(.eq (.map (some g2)))),(17,(.tv (kSlice kObject) p1.m.Objects)),(18,(.tv (kInt .i64) (p1.m.Objects.length:Int))),(19,(.tv (kInt .i64) (w64 (t18+(1:Int)))))] ⟨R,R,R,R,R,trivial⟩ (At.r ⟨x40,w47,(w64 (t18+(1:Int))),hF,R,R⟩)
   ·replace hF:=W.ite_f hb38 hF
    refine At.exit ?_
    refine At.x (At.x ?_)
    refine At.h ?_
    refine At.vh ?_
    refine At.w [1] R [(3,(.eq (.map (some g2))))] ⟨R,trivial⟩ (At.r ⟨x36,w39,hF,R,R⟩)
 ·rintro _ _ ⟨x12,w20,hF,rfl,rfl⟩
  unfold vw.c1 at hF
  refine At.seq (At.region (At.d R R R R (jb (x:=(.eq (.map (some g2)))) (ja R)) ?_))
  refine At.d R R R R (does_len_mrow (ja R) 0 R Tryz.underlying116) ?_
  obtain ⟨hq19,hF⟩:=hF
  refine At.f R (eff_make0 R R R sl_79 (ji _ _) (ja R) hq19) ?_
  rintro _ _ ⟨v21,rfl,rfl⟩
  refine At.d R R R R (jd (x:=(.eq v21)) (ja R)) ?_
  refine At.done (At.vh ?_)
  refine At.cut (fun rs L=>∃ (x19:(List border_line)) (v29:Value),vw.c2 x19 Q∧rs=[.row v29 82 kborder_line x19]∧L=mkL [(11,(.eq v29))]) ?_ ?_
  ·refine At.seq (At.region (At.d R R R R (jb (x:=(.eq (.map (some g2)))) (ja R)) ?_))
   refine At.mrowfreeze 1 [3,91,94] R ⟨R,R,R,trivial⟩ ?_
   refine At.f R (eff_range R R R (ja R) Tryz.underlying116 (((⟨#[]⟩:BA),(⟨#[]⟩:BA)),([]:List BA))) ?_
   rintro _ _ ⟨g12,rfl,rfl⟩
   refine At.done (At.vh (At.block ?_))
   obtain ⟨n1,hF⟩:=hF
   refine At.w [1,0] R [(11,(.eq v21)),(95,(.eq (.pointer (some ⟨g12,0,none⟩))))] ⟨R,R,trivial⟩ ?_
   refine At.loop (fun m rs L=>∃ (x24:(List border_line)) (v36:Value) (x25:(List ((BA×BA)×(List BA)))) (b10:Bool) (e10:((BA×BA)×(List BA))),W.iter2 (vw.l1 (vw.c2)) m x24 x25 Q∧rs=[.row v36 82 kborder_line x24,.iter g12 (kPair kStr kStr) (kSlice kStr) x25 b10 e10]∧L=mkL [(11,(.eq v36)),(95,(.eq (.pointer (some ⟨g12,0,none⟩))))]) ?_ ?_ (m:=n1) ⟨([]:List border_line),v21,x12,false,(((⟨#[]⟩:BA),(⟨#[]⟩:BA)),([]:List BA)),hF,R,R⟩
   ·rintro rs L ⟨_,_,_,_,_,hF,_,_⟩;exact hF
   ·rintro m1 _ _ ⟨x24,v36,x25,b10,e10,hF,rfl,rfl⟩
    replace hF:=W.iter2_s hF
    unfold vw.l1 at hF
    refine At.seq (At.region (At.f R (eff_next R R R (ja R) 1 R hF) ?_))
    rintro _ _ ⟨b11,e11,l5,hF,rfl,rfl⟩
    refine At.d R R R R (does_extract_tcons (ja R)) ?_
    refine At.done (At.vh (At.seq ?_))
    refine At.cond (ja R) (fun hb21=>?_) (fun hb21=>?_)
    ·replace hF:=W.ite_t hb21 hF
     refine At.skip (At.vh (At.block (At.seq (At.region ?_))))
     obtain ⟨hq28,hF⟩:=hF
     refine At.d R R R R (does_entry (ja R) 1 R hq28) ?_
     refine At.d R R R R (does_extract20 (ja R)) ?_
     refine At.d R R R R (does_extract21 (ja R)) ?_
     refine At.f R (eff_alloc R R R tz_50) ?_
     rintro _ _ ⟨g15,rfl,rfl⟩
     refine At.f R (jx R R (ja R) 0 R (Sub.self (kPair kStr kStr)) ty_50 (ja R)) ?_
     rintro _ _ ⟨rfl,rfl⟩
     refine At.d R R R R (jd (x:=(.tv (kSlice kStr) e11.2)) (ja R)) ?_
     refine At.done (At.vh (At.region (At.d R R R R (jb (x:=(.eq v36)) (ja R)) ?_)))
     refine At.d R R R R (jc (ja R) 0 R (Sub.self (kPair kStr kStr)) ty_50) ?_
     refine At.d R R R R (jb (x:=(.tv (kSlice kStr) e11.2)) (ja R)) ?_
     refine At.d R R R R (jz (jr (ja R) (jr (ja R) parts_nil)) zr_82 bd_82 R (fills_cons R sub_border_line_0 (fills_cons R sub_border_line_1 fills_nil))) ?_
     refine At.f R (jy R R R (os:=[.tmp 104]) R sl_79 (xs:=([(⟨e11.1,e11.2⟩:border_line)]:List border_line)) (jf (ja R) jg) R R) ?_
     rintro _ _ ⟨v37,rfl,rfl⟩
     obtain ⟨hq29,hF⟩:=hF
     refine At.f R (eff_append_row R R R 2 0 R R (ja R) (ja R) sl_79 hq29) ?_
     rintro _ _ ⟨v38,rfl,rfl⟩
     refine At.d R R R R (jd (x:=(.eq v38)) (ja R)) ?_
     refine At.done ?_
     refine At.n ?_
     refine At.vh ?_
     refine At.w [2,3] R [(11,(.eq v38)),(95,(.eq (.pointer (some ⟨g12,0,none⟩))))] ⟨R,R,trivial⟩ (At.r ⟨(x24++([(⟨e11.1,e11.2⟩:border_line)]:List border_line)),v38,l5,b11,e11,hF,R,R⟩)
    ·replace hF:=W.ite_f hb21 hF
     refine At.exit ?_
     refine At.x (At.x ?_)
     refine At.h ?_
     refine At.vh ?_
     refine At.w [0] R [(11,(.eq v36))] ⟨R,trivial⟩ (At.r ⟨x24,v36,hF,R,R⟩)
  ·rintro _ _ ⟨x19,v29,hF,rfl,rfl⟩
   unfold vw.c2 at hF
   refine At.seq (At.region (At.d R R R R (jb (x:=(.eq v29)) (ja R)) ?_))
   replace hF:=W.vm hF
   refine At.f R (jo R R (jq R en_66 (jf (ja R) (jf (opd_fn 67) jg))) [0] R (slices_SortFunc_border_line_border_line__o_border_parcel_lines_1.ok hF)) ?_
   rintro _ _ ⟨_,_,⟨r7,hF,rfl,rfl⟩,rfl,rfl⟩
   refine At.done (At.vh (At.seq (At.region (At.d R R R R (jb (x:=(.eq v29)) (ja R)) ?_))))
   refine At.d R R R R (jd (x:=(.eq v29)) (ja R)) ?_
   refine At.done (At.vh (At.ret ?_))
   exact At.j rfl (rv_tmp rfl) [0] rfl ⟨r7,_,hF,rfl,rfl⟩
def border_parcel_point.F (p1:border_parcel) (id1:BA):W Point:=W.req (0≤(mget id1 (0:Int) p1.at_)∧(mget id1 (0:Int) p1.at_)<(p1.m.Objects.length:Int)) (W.ret ((rd zObject p1.m.Objects (mget id1 (0:Int) p1.at_)).At))
theorem border_parcel_point.ok {p1:border_parcel} {id1:BA} {Q:Point→Prop} (hF:border_parcel_point.F p1 id1 Q):Con Tryz.prog 35 [.tv kborder_parcel p1,.tv kStr id1] [] (fun ta rs'=>∃ (r:Point),Q r∧ta=.tv kPoint r∧rs'=[]):=by
 refine Con.i Tryz.func35 Tryz.ntmps35 R R (fun C=>?_)
 unfold border_parcel_point.F at hF
 refine At.seq (At.region (At.f R (jw R R R (ja R)) ?_))
 rintro _ _ ⟨g1,rfl,rfl⟩
 refine At.f R (eff_alloc R R R tz_37) ?_
 rintro _ _ ⟨g2,rfl,rfl⟩
 refine At.done (At.vh (At.seq (At.region (At.d R R R R (je (ja R) fa_76_0) ?_))))
 refine At.d R R R R (je (ja R) fa_24_0) ?_
 refine At.d R R R R (jc (ja R) 1 R sub_border_parcel_0_0 ty_22) ?_
 refine At.d R R R R (je (ja R) fa_76_1) ?_
 refine At.d R R R R (jc (ja R) 1 R sub_border_parcel_1 ty_74) ?_
 refine At.d R R R R (jb (x:=(.tv kStr id1)) (ja R)) ?_
 refine At.d R R R R (does_lookF (ja R) mt_74 (ja R)) ?_
 obtain ⟨hq1,hF⟩:=hF
 refine At.d R R R R (vf zObject (ja R) (ja R) Tryz.underlying22 ty_59 hq1) ?_
 refine At.d R R R R (Jd (K:=kObject) (ja R) fa_59_2 sub_Object_2) ?_
 refine At.d R R R R (vq (K:=kPoint) (ja R) ty_37) ?_
 refine At.f R (jx R R (ja R) 0 R (Sub.self kPoint) ty_37 (ja R)) ?_
 rintro _ _ ⟨rfl,rfl⟩
 refine At.done (At.vh (At.ret ?_))
 exact At.j rfl (rv_cell rfl 0 rfl ty_37) [] rfl ⟨(rd zObject p1.m.Objects (mget id1 (0:Int) p1.at_)).At,hF,rfl,rfl⟩
def Je.c1 (x4:(List Segment)):W (List Segment):=W.ret x4
def Je.l1 (p1:border_parcel) (l1:(List border_line)) (K1:(List Segment)→W (List Segment)) (A1:(List Segment)→Int→W (List Segment)) (x7:(List Segment)) (t6:Int):W (List Segment):=W.ite (decide (t6<(l1.length:Int))) (W.req (0≤t6∧t6<(l1.length:Int)) (W.bind (border_parcel_point.F p1 ((rd zborder_line l1 t6).nodes.1)) (fun r9=>W.bind (border_parcel_point.F p1 ((rd zborder_line l1 t6).nodes.2)) (fun r10=>W.req ((x7.length+([(⟨r9,r10⟩:Segment)]:List Segment).length)*32≤140737488355328∧x7.length+([(⟨r9,r10⟩:Segment)]:List Segment).length≤140737488355328) (A1 (x7++([(⟨r9,r10⟩:Segment)]:List Segment)) (w64 (t6+(1:Int)))))))) (K1 x7)
def Je.F (p1:border_parcel) (l1:(List border_line)):W (List Segment):=W.ex fun n=>W.iter2 (Je.l1 p1 l1 (Je.c1)) n ([]:List Segment) (0:Int)
theorem Je.ok {p1:border_parcel} {l1:(List border_line)} {Q:(List Segment)→Prop} (hF:Je.F p1 l1 Q):Con Tryz.prog 32 [.tv kborder_parcel p1,.tv (kSlice kborder_line) l1] [] (fun ta rs'=>∃ (r:(List Segment)) (u0:Value),Q r∧ta=.eq u0∧rs'=[.row u0 39 kSegment r]):=by
 refine Con.i Tryz.func32 Tryz.ntmps32 R R (fun C=>?_)
 unfold Je.F at hF
 refine At.seq (At.region (At.f R (jw R R R (ja R)) ?_))
 rintro _ _ ⟨g1,rfl,rfl⟩
 refine At.d R R R R (jd (x:=(.eq (.slice none 0 0))) (opd_eq _)) ?_
 refine At.done (At.vh (At.seq (At.region (At.d R R R R (jd (x:=(.eq (.slice none 0 0))) (opd_eq _)) ?_))))
 refine At.done (At.vh ?_)
 refine At.cut (fun rs L=>∃ (x4:(List Segment)) (v12:Value),Je.c1 x4 Q∧rs=[.row v12 39 kSegment x4]∧L=mkL [(5,(.eq v12))]) ?_ ?_
 ·refine At.seq (At.region (At.d R R R R (jb (x:=(.tv (kSlice kborder_line) l1)) (ja R)) ?_))
  refine At.d R R R R (js (ja R) Tryz.underlying79) ?_
  refine At.d R R R R (jb (x:=(.tv (kInt .i64) (0:Int))) (ji _ _)) ?_
  refine At.done (At.vh (At.block ?_))
  refine At.nilrow 39 kSegment ?_
  obtain ⟨n1,hF⟩:=hF
  refine At.w [1,0] R [(2,(.eq (.pointer (some ⟨g1,0,none⟩)))),(5,(.eq (.slice none 0 0))),(8,(.tv (kSlice kborder_line) l1)),(9,(.tv (kInt .i64) (l1.length:Int))),(10,(.tv (kInt .i64) (0:Int)))] ⟨R,R,R,R,R,trivial⟩ ?_
  refine At.loop (fun m rs L=>∃ (x7:(List Segment)) (v23:Value) (t6:Int),W.iter2 (Je.l1 p1 l1 (Je.c1)) m x7 t6 Q∧rs=[.box g1 76 kborder_parcel p1,.row v23 39 kSegment x7]∧L=mkL [(2,(.eq (.pointer (some ⟨g1,0,none⟩)))),(5,(.eq v23)),(8,(.tv (kSlice kborder_line) l1)),(9,(.tv (kInt .i64) (l1.length:Int))),(10,(.tv (kInt .i64) t6))]) ?_ ?_ (m:=n1) ⟨([]:List Segment),(.slice none 0 0),(0:Int),hF,R,R⟩
  ·rintro rs L ⟨_,_,_,hF,_,_⟩;exact hF
  ·rintro m1 _ _ ⟨x7,v23,t6,hF,rfl,rfl⟩
   replace hF:=W.iter2_s hF
   unfold Je.l1 at hF
   refine At.seq (At.region (At.d R R R R (jk (ja R) (ja R) vd) ?_))
   refine At.done (At.vh (At.seq ?_))
   refine At.cond (ja R) (fun hb5=>?_) (fun hb5=>?_)
   ·replace hF:=W.ite_t hb5 hF
    refine At.skip (At.vh (At.seq (At.block (At.seq (At.region ?_)))))
    obtain ⟨hq9,hF⟩:=hF
    refine At.d R R R R (vf zborder_line (ja R) (ja R) Tryz.underlying79 ty_82 hq9) ?_
    refine At.d R R R R (vq (K:=kborder_line) (ja R) ty_82) ?_
    refine At.f R (eff_alloc R R R tz_82) ?_
    rintro _ _ ⟨g6,rfl,rfl⟩
    refine At.f R (jx R R (ja R) 0 R (Sub.self kborder_line) ty_82 (ja R)) ?_
    rintro _ _ ⟨rfl,rfl⟩
    refine At.done (At.vh ?_)
    refine At.draw mixed [0,1,2] R [[],[],[13]] (fun φ w hgd=>?_)
    replace hF:=W.vm hF
    refine AtH.take [0,1,2] hgd 0 R R R R (D':=#[Y,N,N,N,N,N,N,N,N,N,N,N,N,N,N]) (by kernel_rfl) (fun _ _ _ _ h=>h) R (jb (x:=(.eq v23)) (ja R)) ?_
    refine AtH.take [0,1] hgd 1 R R R R (D':=#[Y,Y,N,N,N,N,N,N,N,N,N,N,N,N,N]) (by kernel_rfl) (fun _ _ _ _ h=>h) R (jc (ja R) 1 R (Sub.self kborder_parcel) ty_76) ?_
    refine AtH.take [0,1] hgd 2 R R R R (D':=#[Y,Y,Y,N,N,N,N,N,N,N,N,N,N,N,N]) (by kernel_rfl) (fun _ _ _ _ h=>h) R (je (ja R) fa_82_0) ?_
    refine AtH.take [0,1] hgd 3 R R R R (D':=#[Y,Y,Y,Y,N,N,N,N,N,N,N,N,N,N,N]) (by kernel_rfl) (fun _ _ _ _ h=>h) R (does_aidx_box (ja R) (ji _ _) ia_50_0) ?_
    refine AtH.take [0,1] hgd 4 R R R R (D':=#[Y,Y,Y,Y,Y,N,N,N,N,N,N,N,N,N,N]) (by kernel_rfl) (fun _ _ _ _ h=>h) R (jc (ja R) 0 R sub_border_line_0_0 ty_9) ?_
    refine AtH.take [0,1] hgd 6 R R R R (D':=#[Y,Y,Y,Y,Y,N,Y,N,N,N,N,N,N,N,N]) (by kernel_rfl) (fun _ _ _ _ h=>h) R (jc (ja R) 1 R (Sub.self kborder_parcel) ty_76) ?_
    refine AtH.take [0,1] hgd 7 R R R R (D':=#[Y,Y,Y,Y,Y,N,Y,Y,N,N,N,N,N,N,N]) (by kernel_rfl) (fun _ _ _ _ h=>h) R (je (ja R) fa_82_0) ?_
    refine AtH.take [0,1] hgd 8 R R R R (D':=#[Y,Y,Y,Y,Y,N,Y,Y,Y,N,N,N,N,N,N]) (by kernel_rfl) (fun _ _ _ _ h=>h) R (does_aidx_box (ja R) (ji _ _) ia_50_1) ?_
    refine AtH.take [0,1] hgd 9 R R R R (D':=#[Y,Y,Y,Y,Y,N,Y,Y,Y,Y,N,N,N,N,N]) (by kernel_rfl) (fun _ _ _ _ h=>h) R (jc (ja R) 0 R sub_border_line_0_1 ty_9) ?_
    refine AtH.all1 5 (by kernel_rfl) ?_
    refine AtH.f [(0,0),(1,1),(2,2)] R R R R R R (jn R R jp (jq R en_35 (jf (ja R) (jf (ja R) jg))) (border_parcel_point.ok hF) (by rintro _ _ ⟨r,_,rfl,_⟩;exact (flat_tv flat_Point))) (D':=#[Y,Y,Y,Y,Y,Y,Y,Y,Y,Y,N,N,N,N,N]) (by kernel_rfl) (by kernel_rfl) ?_
    rintro _ _ ⟨_,_,⟨r9,hF,rfl,rfl⟩,rfl,rfl⟩
    refine ⟨_,.inr ⟨R,(flat_tv flat_Point)⟩,?_⟩
    replace hF:=W.vm hF
    refine AtH.all1 10 (by kernel_rfl) ?_
    refine AtH.f [(0,0),(1,1),(2,2)] R R R R R R (jn R R jp (jq R en_35 (jf (ja R) (jf (ja R) jg))) (border_parcel_point.ok hF) (by rintro _ _ ⟨r,_,rfl,_⟩;exact (flat_tv flat_Point))) (D':=#[Y,Y,Y,Y,Y,Y,Y,Y,Y,Y,Y,N,N,N,N]) (by kernel_rfl) (by kernel_rfl) ?_
    rintro _ _ ⟨_,_,⟨r10,hF,rfl,rfl⟩,rfl,rfl⟩
    refine ⟨_,.inr ⟨R,(flat_tv flat_Point)⟩,?_⟩
    obtain ⟨hq10,hF⟩:=hF
    refine AtH.take [0,1] hgd 11 R R R R (D':=#[Y,Y,Y,Y,Y,Y,Y,Y,Y,Y,Y,Y,N,N,N]) (by kernel_rfl) (fun _ _ _ _ h=>h) R (jz (jr (ja R) (jr (ja R) parts_nil)) zr_39 bd_39 R (fills_cons R Ja (fills_cons R Jb fills_nil))) ?_
    refine AtH.all1 12 (by kernel_rfl) ?_
    refine AtH.f [(0,0),(1,1),(2,2)] R R R R R R (jy R R R (os:=[.tmp 25]) R sl_27 (xs:=([(⟨r9,r10⟩:Segment)]:List Segment)) (jf (ja R) jg) R R) (D':=#[Y,Y,Y,Y,Y,Y,Y,Y,Y,Y,Y,Y,Y,N,N]) (by kernel_rfl) (by kernel_rfl) ?_
    rintro _ _ ⟨v26,rfl,rfl⟩
    refine ⟨_,.inr ⟨R,flat_eq⟩,?_⟩
    refine AtH.all1 13 (by kernel_rfl) ?_
    refine AtH.f [(0,1),(1,2)] R R R R R R (eff_append_row R R R 3 0 R R (ja R) (ja R) sl_27 hq10) (D':=#[Y,Y,Y,Y,Y,Y,Y,Y,Y,Y,Y,Y,Y,Y,N]) (by kernel_rfl) (by kernel_rfl) ?_
    rintro _ _ ⟨v27,rfl,rfl⟩
    refine ⟨_,.inr ⟨R,flat_eq⟩,?_⟩
    refine AtH.take [0,1] hgd 14 R R R R (D':=#[Y,Y,Y,Y,Y,Y,Y,Y,Y,Y,Y,Y,Y,Y,Y]) (by kernel_rfl) (fun _ _ _ _ h=>h) R (jd (x:=(.eq v27)) (ja R)) ?_
    refine AtH.done (by kernel_rfl) ?_
    refine At.n ?_
    refine At.vh (At.region (At.d R R R R (jk (ja R) (ji _ _) vc) ?_))
    refine At.d R R R R (jb (x:=(.tv (kInt .i64) (w64 (t6+(1:Int))))) (ja R)) ?_
    refine At.done (At.vh ?_)
    refine At.w [2,3] R [(2,(.eq (.pointer (some ⟨g1,0,none⟩)))),(5,(.eq v27)),(8,(.tv (kSlice kborder_line) l1)),(9,(.tv (kInt .i64) (l1.length:Int))),(10,(.tv (kInt .i64) (w64 (t6+(1:Int)))))] ⟨R,R,R,R,R,trivial⟩ (At.r ⟨(x7++([(⟨r9,r10⟩:Segment)]:List Segment)),v27,(w64 (t6+(1:Int))),hF,R,R⟩)
   ·replace hF:=W.ite_f hb5 hF
    refine At.exit ?_
    refine At.x (At.x ?_)
    refine At.h ?_
    refine At.vh ?_
    refine At.w [1] R [(5,(.eq v23))] ⟨R,trivial⟩ (At.r ⟨x7,v23,hF,R,R⟩)
 ·rintro _ _ ⟨x4,v12,hF,rfl,rfl⟩
  unfold Je.c1 at hF
  refine At.seq (At.region (At.d R R R R (jb (x:=(.eq v12)) (ja R)) ?_))
  refine At.d R R R R (jd (x:=(.eq v12)) (ja R)) ?_
  refine At.done (At.vh (At.ret ?_))
  exact At.j rfl (rv_tmp rfl) [0] rfl ⟨x4,_,hF,rfl,rfl⟩
def vn.c1 (s1:(List BA)):W (List BA):=W.ret s1
def vn.c2 (k34:Int) (A1:Int→W (List BA)):W (List BA):=A1 (w64 (k34+(1:Int)))
def vn.c3 (x24:(List BA)) (k48:Int):W (List BA):=W.req (0≤k48∧k48≤(x24.length:Int)) (W.req (x24.length≤x24.length) (W.req (0≤k48∧k48≤((x24.take k48.toNat++(List.replicate (x24.length-k48.toNat) (⟨#[]⟩:BA)++x24.drop x24.length)).length:Int)) (W.req (k48.toNat≤(x24.take k48.toNat++(List.replicate (x24.length-k48.toNat) (⟨#[]⟩:BA)++x24.drop x24.length)).length) (W.ret ((x24.take k48.toNat++(List.replicate (x24.length-k48.toNat) (⟨#[]⟩:BA)++x24.drop x24.length)).take k48.toNat)))))
def vn.l2 (s1:(List BA)) (k34:Int) (K3:(List BA)→Int→W (List BA)) (A2:(List BA)→Int→Int→W (List BA)) (x27:(List BA)) (k53:Int) (k54:Int):W (List BA):=W.ite (decide (k54<((s1.length-k34.toNat:Nat):Int))) (W.req (0≤k54∧k54<((s1.length-k34.toNat:Nat):Int)) (W.req (0≤(((k34.toNat:Nat):Int)+k54)∧(((k34.toNat:Nat):Int)+k54)<(x27.length:Int)) (W.req (0≤(w64 (k54-(1:Int)))∧(w64 (k54-(1:Int)))<((s1.length-k34.toNat:Nat):Int)) (W.req (0≤(((k34.toNat:Nat):Int)+(w64 (k54-(1:Int))))∧(((k34.toNat:Nat):Int)+(w64 (k54-(1:Int))))<(x27.length:Int)) (W.ite (!(sEq (rd (⟨#[]⟩:BA) x27 (((k34.toNat:Nat):Int)+k54)) (rd (⟨#[]⟩:BA) x27 (((k34.toNat:Nat):Int)+(w64 (k54-(1:Int))))))) (W.req (0≤k54∧k54<((s1.length-k34.toNat:Nat):Int)) (W.req (0≤(((k34.toNat:Nat):Int)+k54)∧(((k34.toNat:Nat):Int)+k54)<(x27.length:Int)) (W.req (0≤k53∧k53<(x27.length:Int)) (W.req (0≤k53∧k53<(x27.length:Int)) (A2 (x27.set k53.toNat (rd (⟨#[]⟩:BA) x27 (((k34.toNat:Nat):Int)+k54))) (w64 (k53+(1:Int))) (w64 (k54+(1:Int)))))))) (A2 x27 k53 (w64 (k54+(1:Int))))))))) (K3 x27 k53)
def vn.l1 (s1:(List BA)) (K1:W (List BA)) (A1:Int→W (List BA)) (k34:Int):W (List BA):=W.ite (decide (k34<(s1.length:Int))) (W.req (0≤k34∧k34<(s1.length:Int)) (W.req (0≤(w64 (k34-(1:Int)))∧(w64 (k34-(1:Int)))<(s1.length:Int)) (W.ite (sEq (rd (⟨#[]⟩:BA) s1 k34) (rd (⟨#[]⟩:BA) s1 (w64 (k34-(1:Int))))) (W.req (0≤k34∧k34≤(s1.length:Int)) (W.ex fun n=>W.iter3 (vn.l2 s1 k34 (vn.c3)) n s1 k34 (1:Int))) ((vn.c2 k34 A1))))) (K1)
def vn.F (s1:(List BA)):W (List BA):=W.ite (decide ((s1.length:Int)<(2:Int))) (W.ret s1) (W.ex fun n=>W.iter1 (vn.l1 s1 (vn.c1 s1)) n (1:Int))
theorem vn.ok {s1:(List BA)} {v1:Value} {Q:(List BA)→Prop} (hF:vn.F s1 Q):Con Tryz.prog 38 [.eq v1] [.row v1 50 kStr s1] (fun ta rs'=>∃ (r:(List BA)) (u0:Value),Q r∧ta=.eq u0∧rs'=[.row u0 50 kStr r]):=by
 refine Con.i Tryz.func38 Tryz.ntmps38 R R (fun C=>?_)
 unfold vn.F at hF
 refine At.seq (At.region (At.d R R R R (jd (x:=(.eq (.slice none 0 0))) (opd_eq _)) ?_))
 refine At.done (At.vh (At.seq (At.seq (At.region (At.d R R R R (jb (x:=(.eq v1)) (ja R)) ?_)))))
 refine At.d R R R R (does_len_row (ja R) 0 R Tryz.underlying41) ?_
 refine At.d R R R R (jk (ja R) (ji _ _) vd) ?_
 refine At.done (At.vh ?_)
 refine At.cond (ja R) (fun hb1=>?_) (fun hb1=>?_)
 ·replace hF:=W.ite_t hb1 hF
  refine At.seq (At.region (At.d R R R R (jb (x:=(.eq v1)) (ja R)) ?_))
  refine At.d R R R R (jd (x:=(.eq v1)) (ja R)) ?_
  refine At.done (At.vh (At.ret (At.vi ?_)))
  exact At.j rfl (rv_tmp rfl) [0] rfl ⟨s1,_,hF,rfl,rfl⟩
 ·replace hF:=W.ite_f hb1 hF
  refine At.skip (At.vh ?_)
  refine At.cut (fun rs L=>∃ _:Unit,vn.c1 s1 Q∧rs=[.row v1 50 kStr s1]∧L=mkL [(0,(.eq v1))]) ?_ ?_
  ·refine At.seq (At.region (At.d R R R R (jd (x:=(.tv (kInt .i64) (1:Int))) (ji _ _)) ?_))
   refine At.done (At.vh (At.block ?_))
   obtain ⟨n2,hF⟩:=hF
   refine At.w [0] R [(0,(.eq v1)),(3,(.tv (kInt .i64) (1:Int)))] ⟨R,R,trivial⟩ ?_
   refine At.loop (fun m rs L=>∃ (k34:Int),W.iter1 (vn.l1 s1 (vn.c1 s1)) m k34 Q∧rs=[.row v1 50 kStr s1]∧L=mkL [(0,(.eq v1)),(3,(.tv (kInt .i64) k34))]) ?_ ?_ (m:=n2) ⟨(1:Int),hF,R,R⟩
   ·rintro rs L ⟨_,hF,_,_⟩;exact hF
   ·rintro m1 _ _ ⟨k34,hF,rfl,rfl⟩
    replace hF:=W.iter1_s hF
    unfold vn.l1 at hF
    refine At.seq (At.seq (At.region (At.d R R R R (jb (x:=(.tv (kInt .i64) k34)) (ja R)) ?_)))
    refine At.d R R R R (jb (x:=(.eq v1)) (ja R)) ?_
    refine At.d R R R R (does_len_row (ja R) 0 R Tryz.underlying41) ?_
    refine At.d R R R R (jk (ja R) (ja R) vd) ?_
    refine At.done (At.vh ?_)
    refine At.cond (ja R) (fun hb26=>?_) (fun hb26=>?_)
    ·replace hF:=W.ite_t hb26 hF
     refine At.skip (At.vh ?_)
     refine At.cut (fun rs L=>∃ _:Unit,vn.c2 k34 (W.iter1 (vn.l1 s1 (vn.c1 s1)) m1) Q∧rs=[.row v1 50 kStr s1]∧L=mkL [(0,(.eq v1)),(3,(.tv (kInt .i64) k34))]) ?_ ?_
     ·refine At.block (At.seq ?_)
      refine At.draw mixed [0] R [[]] (fun φ w hgd=>?_)
      obtain ⟨hq111,hF⟩:=hF
      obtain ⟨hq112,hF⟩:=hF
      refine AtH.take [0] hgd 0 R R R R (D':=#[Y,N,N,N,N,N,N,N,N,N]) (by kernel_rfl) (fun _ _ _ _ h=>h) R (jb (x:=(.eq v1)) (ja R)) ?_
      refine AtH.take [0] hgd 1 R R R R (D':=#[Y,Y,N,N,N,N,N,N,N,N]) (by kernel_rfl) (fun _ _ _ _ h=>h) R (jb (x:=(.tv (kInt .i64) k34)) (ja R)) ?_
      refine AtH.take [0] hgd 2 R R R R (D':=#[Y,Y,Y,N,N,N,N,N,N,N]) (by kernel_rfl) (fun _ _ _ _ h=>h) R (does_idx_row (ja R) 0 R (ja R) Tryz.underlying41 ty_9 hq111) ?_
      refine AtH.take [0] hgd 3 R R R R (D':=#[Y,Y,Y,Y,N,N,N,N,N,N]) (by kernel_rfl) (fun _ _ _ _ h=>h) R (Jc (ja R) 0 R k34 0 R (⟨#[]⟩:BA) hq111 (Sub.self kStr) ty_9) ?_
      refine AtH.take [0] hgd 4 R R R R (D':=#[Y,Y,Y,Y,Y,N,N,N,N,N]) (by kernel_rfl) (fun _ _ _ _ h=>h) R (jb (x:=(.eq v1)) (ja R)) ?_
      refine AtH.take [0] hgd 5 R R R R (D':=#[Y,Y,Y,Y,Y,Y,N,N,N,N]) (by kernel_rfl) (fun _ _ _ _ h=>h) R (jb (x:=(.tv (kInt .i64) k34)) (ja R)) ?_
      refine AtH.take [0] hgd 6 R R R R (D':=#[Y,Y,Y,Y,Y,Y,Y,N,N,N]) (by kernel_rfl) (fun _ _ _ _ h=>h) R (jk (ja R) (ji _ _) bin_sub) ?_
      refine AtH.take [0] hgd 7 R R R R (D':=#[Y,Y,Y,Y,Y,Y,Y,Y,N,N]) (by kernel_rfl) (fun _ _ _ _ h=>h) R (does_idx_row (ja R) 0 R (ja R) Tryz.underlying41 ty_9 hq112) ?_
      refine AtH.take [0] hgd 8 R R R R (D':=#[Y,Y,Y,Y,Y,Y,Y,Y,Y,N]) (by kernel_rfl) (fun _ _ _ _ h=>h) R (Jc (ja R) 0 R (w64 (k34-(1:Int))) 0 R (⟨#[]⟩:BA) hq112 (Sub.self kStr) ty_9) ?_
      refine AtH.take [0] hgd 9 R R R R (D':=#[Y,Y,Y,Y,Y,Y,Y,Y,Y,Y]) (by kernel_rfl) (fun _ _ _ _ h=>h) R (jk (ja R) (ja R) bin_seql) ?_
      refine AtH.done (by kernel_rfl) ?_
      refine At.vh ?_
      refine At.cond (ja R) (fun hb32=>?_) (fun hb32=>?_)
      ·replace hF:=W.ite_t hb32 hF
       refine At.seq (At.region (At.d R R R R (jb (x:=(.eq v1)) (ja R)) ?_))
       refine At.d R R R R (jb (x:=(.tv (kInt .i64) k34)) (ja R)) ?_
       obtain ⟨hq113,hF⟩:=hF
       refine At.d R R R R (does_cutrow_l (ja R) 0 R (ja R) Tryz.underlying41 ty_9 hq113) ?_
       refine At.d R R R R (jd (x:=(cutv k34.toNat s1.length kStr.sz v1)) (ja R)) ?_
       refine At.done (At.vh ?_)
       refine At.cut (fun rs L=>∃ (x24:(List BA)) (k48:Int),vn.c3 x24 k48 Q∧rs=[.row v1 50 kStr x24]∧L=mkL [(0,(.eq v1)),(3,(.tv (kInt .i64) k48))]) ?_ ?_
       ·refine At.seq (At.region (At.d R R R R (jd (x:=(.tv (kInt .i64) (1:Int))) (ji _ _)) ?_))
        refine At.done (At.vh (At.block ?_))
        obtain ⟨n1,hF⟩:=hF
        refine At.w [0] R [(0,(.eq v1)),(3,(.tv (kInt .i64) k34)),(4,(cutv k34.toNat s1.length kStr.sz v1)),(5,(.tv (kInt .i64) (1:Int)))] ⟨R,R,R,R,trivial⟩ ?_
        refine At.loop (fun m rs L=>∃ (x27:(List BA)) (k53:Int) (k54:Int),W.iter3 (vn.l2 s1 k34 (vn.c3)) m x27 k53 k54 Q∧rs=[.row v1 50 kStr x27]∧L=mkL [(0,(.eq v1)),(3,(.tv (kInt .i64) k53)),(4,(cutv k34.toNat s1.length kStr.sz v1)),(5,(.tv (kInt .i64) k54))]) ?_ ?_ (m:=n1) ⟨s1,k34,(1:Int),hF,R,R⟩
        ·rintro rs L ⟨_,_,_,hF,_,_⟩;exact hF
        ·rintro m2 _ _ ⟨x27,k53,k54,hF,rfl,rfl⟩
         replace hF:=W.iter3_s hF
         unfold vn.l2 at hF
         refine At.seq (At.seq (At.region (At.d R R R R (jb (x:=(.tv (kInt .i64) k54)) (ja R)) ?_)))
         refine At.d R R R R (jb (x:=(cutv k34.toNat s1.length kStr.sz v1)) (ja R)) ?_
         refine At.d R R R R (does_len_cut (ja R) Tryz.underlying41) ?_
         refine At.d R R R R (jk (ja R) (ja R) vd) ?_
         refine At.done (At.vh ?_)
         refine At.cond (ja R) (fun hb41=>?_) (fun hb41=>?_)
         ·replace hF:=W.ite_t hb41 hF
          refine At.skip (At.vh (At.seq (At.block (At.seq ?_))))
          refine At.draw mixed [0] R [[]] (fun φ w hgd=>?_)
          obtain ⟨hq150,hF⟩:=hF
          obtain ⟨hq151,hF⟩:=hF
          obtain ⟨hq152,hF⟩:=hF
          obtain ⟨hq153,hF⟩:=hF
          refine AtH.take [0] hgd 0 R R R R (D':=#[Y,N,N,N,N,N,N,N,N,N]) (by kernel_rfl) (fun _ _ _ _ h=>h) R (jb (x:=(cutv k34.toNat s1.length kStr.sz v1)) (ja R)) ?_
          refine AtH.take [0] hgd 1 R R R R (D':=#[Y,Y,N,N,N,N,N,N,N,N]) (by kernel_rfl) (fun _ _ _ _ h=>h) R (jb (x:=(.tv (kInt .i64) k54)) (ja R)) ?_
          refine AtH.take [0] hgd 2 R R R R (D':=#[Y,Y,Y,N,N,N,N,N,N,N]) (by kernel_rfl) (fun _ _ _ _ h=>h) R (does_idx_cut (ja R) 0 R (ja R) Tryz.underlying41 ty_9 hq150) ?_
          refine AtH.take [0] hgd 3 R R R R (D':=#[Y,Y,Y,Y,N,N,N,N,N,N]) (by kernel_rfl) (fun _ _ _ _ h=>h) R (Jc (ja R) 0 R (((k34.toNat:Nat):Int)+k54) 0 R (⟨#[]⟩:BA) hq151 (Sub.self kStr) ty_9) ?_
          refine AtH.take [0] hgd 4 R R R R (D':=#[Y,Y,Y,Y,Y,N,N,N,N,N]) (by kernel_rfl) (fun _ _ _ _ h=>h) R (jb (x:=(cutv k34.toNat s1.length kStr.sz v1)) (ja R)) ?_
          refine AtH.take [0] hgd 5 R R R R (D':=#[Y,Y,Y,Y,Y,Y,N,N,N,N]) (by kernel_rfl) (fun _ _ _ _ h=>h) R (jb (x:=(.tv (kInt .i64) k54)) (ja R)) ?_
          refine AtH.take [0] hgd 6 R R R R (D':=#[Y,Y,Y,Y,Y,Y,Y,N,N,N]) (by kernel_rfl) (fun _ _ _ _ h=>h) R (jk (ja R) (ji _ _) bin_sub) ?_
          refine AtH.take [0] hgd 7 R R R R (D':=#[Y,Y,Y,Y,Y,Y,Y,Y,N,N]) (by kernel_rfl) (fun _ _ _ _ h=>h) R (does_idx_cut (ja R) 0 R (ja R) Tryz.underlying41 ty_9 hq152) ?_
          refine AtH.take [0] hgd 8 R R R R (D':=#[Y,Y,Y,Y,Y,Y,Y,Y,Y,N]) (by kernel_rfl) (fun _ _ _ _ h=>h) R (Jc (ja R) 0 R (((k34.toNat:Nat):Int)+(w64 (k54-(1:Int)))) 0 R (⟨#[]⟩:BA) hq153 (Sub.self kStr) ty_9) ?_
          refine AtH.take [0] hgd 9 R R R R (D':=#[Y,Y,Y,Y,Y,Y,Y,Y,Y,Y]) (by kernel_rfl) (fun _ _ _ _ h=>h) R (jk (ja R) (ja R) bin_sneq) ?_
          refine AtH.done (by kernel_rfl) ?_
          refine At.vh ?_
          refine At.cond (ja R) (fun hb42=>?_) (fun hb42=>?_)
          ·replace hF:=W.ite_t hb42 hF
           refine At.seq (At.region (At.d R R R R (jb (x:=(.eq v1)) (ja R)) ?_))
           refine At.d R R R R (jb (x:=(.tv (kInt .i64) k53)) (ja R)) ?_
           refine At.d R R R R (jb (x:=(cutv k34.toNat s1.length kStr.sz v1)) (ja R)) ?_
           refine At.d R R R R (jb (x:=(.tv (kInt .i64) k54)) (ja R)) ?_
           obtain ⟨hq154,hF⟩:=hF
           refine At.d R R R R (does_idx_cut (ja R) 0 R (ja R) Tryz.underlying41 ty_9 hq154) ?_
           obtain ⟨hq155,hF⟩:=hF
           refine At.d R R R R (Jc (ja R) 0 R (((k34.toNat:Nat):Int)+k54) 0 R (⟨#[]⟩:BA) hq155 (Sub.self kStr) ty_9) ?_
           obtain ⟨hq156,hF⟩:=hF
           refine At.d R R R R (does_idx_row (ja R) 0 R (ja R) Tryz.underlying41 ty_9 hq156) ?_
           obtain ⟨hq157,hF⟩:=hF
           refine At.f R (eff_store_elem R R (ja R) 0 R k53 0 R (⟨#[]⟩:BA) hq157 (Sub.self kStr) ty_9 (ja R)) ?_
           rintro _ _ ⟨rfl,rfl⟩
           refine At.done (At.vh (At.region (At.d R R R R (jb (x:=(.tv (kInt .i64) k53)) (ja R)) ?_)))
           refine At.d R R R R (jk (ja R) (ji _ _) vc) ?_
           refine At.d R R R R (jd (x:=(.tv (kInt .i64) (w64 (k53+(1:Int))))) (ja R)) ?_
           refine At.done ?_
           refine At.n ?_
           refine At.vh (At.region (At.d R R R R (jb (x:=(.tv (kInt .i64) k54)) (ja R)) ?_))
           refine At.d R R R R (jk (ja R) (ji _ _) vc) ?_
           refine At.d R R R R (jd (x:=(.tv (kInt .i64) (w64 (k54+(1:Int))))) (ja R)) ?_
           refine At.done (At.vh ?_)
           refine At.w [0] R [(0,(.eq v1)),(3,(.tv (kInt .i64) (w64 (k53+(1:Int))))),(4,(cutv k34.toNat s1.length kStr.sz v1)),(5,(.tv (kInt .i64) (w64 (k54+(1:Int)))))] ⟨R,R,R,R,trivial⟩ (At.r ⟨(x27.set k53.toNat (rd (⟨#[]⟩:BA) x27 (((k34.toNat:Nat):Int)+k54))),(w64 (k53+(1:Int))),(w64 (k54+(1:Int))),hF,R,R⟩)
          ·replace hF:=W.ite_f hb42 hF
           refine At.skip ?_
           refine At.n ?_
           refine At.vh (At.region (At.d R R R R (jb (x:=(.tv (kInt .i64) k54)) (ja R)) ?_))
           refine At.d R R R R (jk (ja R) (ji _ _) vc) ?_
           refine At.d R R R R (jd (x:=(.tv (kInt .i64) (w64 (k54+(1:Int))))) (ja R)) ?_
           refine At.done (At.vh ?_)
           refine At.w [0] R [(0,(.eq v1)),(3,(.tv (kInt .i64) k53)),(4,(cutv k34.toNat s1.length kStr.sz v1)),(5,(.tv (kInt .i64) (w64 (k54+(1:Int)))))] ⟨R,R,R,R,trivial⟩ (At.r ⟨x27,k53,(w64 (k54+(1:Int))),hF,R,R⟩)
         ·replace hF:=W.ite_f hb41 hF
          refine At.exit ?_
          refine At.x (At.x ?_)
          refine At.h ?_
          refine At.vh ?_
          refine At.w [0] R [(0,(.eq v1)),(3,(.tv (kInt .i64) k53))] ⟨R,R,trivial⟩ (At.r ⟨x27,k53,hF,R,R⟩)
       ·rintro _ _ ⟨x24,k48,hF,rfl,rfl⟩
        unfold vn.c3 at hF
        refine At.seq (At.region (At.d R R R R (jb (x:=(.eq v1)) (ja R)) ?_))
        refine At.d R R R R (jb (x:=(.tv (kInt .i64) k48)) (ja R)) ?_
        obtain ⟨hq130,hF⟩:=hF
        refine At.d R R R R (does_cutrow_l (ja R) 0 R (ja R) Tryz.underlying41 ty_9 hq130) ?_
        obtain ⟨hq131,hF⟩:=hF
        refine At.f R (eff_clear_cut R R 0 R (ja R) hq131 Tryz.underlying41 tz_9) ?_
        rintro _ _ ⟨rfl,rfl⟩
        refine At.done (At.vh (At.seq (At.region (At.d R R R R (jb (x:=(.eq v1)) (ja R)) ?_))))
        refine At.d R R R R (jb (x:=(.tv (kInt .i64) k48)) (ja R)) ?_
        obtain ⟨hq132,hF⟩:=hF
        refine At.d R R R R (does_cutrow_h (ja R) 0 R (ja R) Tryz.underlying41 ty_9 hq132) ?_
        refine At.d R R R R (jd (x:=(cutv 0 k48.toNat kStr.sz v1)) (ja R)) ?_
        refine At.done (At.vh (At.ret ?_))
        refine At.q ?_
        refine At.vi (At.vi ?_)
        refine At.q ?_
        refine At.vi ?_
        obtain ⟨hq133,hF⟩:=hF
        refine At.cutrow 0 2 R R hq133 (fun v2=>?_)
        exact At.j rfl (rv_tmp rfl) [0] rfl ⟨((x24.take k48.toNat++(List.replicate (x24.length-k48.toNat) (⟨#[]⟩:BA)++x24.drop x24.length)).take k48.toNat),_,hF,rfl,rfl⟩
      ·replace hF:=W.ite_f hb32 hF
       refine At.skip ?_
       refine At.n ?_
       refine At.vh ?_
       refine At.w [0] R [(0,(.eq v1)),(3,(.tv (kInt .i64) k34))] ⟨R,R,trivial⟩ (At.r ⟨(),hF,R,R⟩)
     ·rintro _ _ ⟨_,hF,rfl,rfl⟩
      unfold vn.c2 at hF
      refine At.region (At.d R R R R (jb (x:=(.tv (kInt .i64) k34)) (ja R)) ?_)
      refine At.d R R R R (jk (ja R) (ji _ _) vc) ?_
      refine At.d R R R R (jd (x:=(.tv (kInt .i64) (w64 (k34+(1:Int))))) (ja R)) ?_
      refine At.done (At.vh ?_)
      refine At.w [0] R [(0,(.eq v1)),(3,(.tv (kInt .i64) (w64 (k34+(1:Int)))))] ⟨R,R,trivial⟩ (At.r ⟨(w64 (k34+(1:Int))),hF,R,R⟩)
    ·replace hF:=W.ite_f hb26 hF
     refine At.exit ?_
     refine At.x (At.x ?_)
     refine At.h ?_
     refine At.vh ?_
     refine At.w [0] R [(0,(.eq v1))] ⟨R,trivial⟩ (At.r ⟨(),hF,R,R⟩)
  ·rintro _ _ ⟨_,hF,rfl,rfl⟩
   unfold vn.c1 at hF
   refine At.seq (At.region (At.d R R R R (jb (x:=(.eq v1)) (ja R)) ?_))
   refine At.d R R R R (jd (x:=(.eq v1)) (ja R)) ?_
   refine At.done (At.vh (At.ret ?_))
   exact At.j rfl (rv_tmp rfl) [0] rfl ⟨s1,_,hF,rfl,rfl⟩
def Jf.c1 (s1:(List BA)) (s2:(List BA)):W Int:=W.ite (decide ((s1.length:Int)<(s2.length:Int))) (W.ret (-1:Int)) (W.ret (0:Int))
def Jf.l1 (s1:(List BA)) (s2:(List BA)) (K1:W Int) (A1:Int→W Int) (t6:Int):W Int:=W.ite (decide (t6<(s1.length:Int))) (W.req (0≤t6∧t6<(s1.length:Int)) (W.ite (decide ((s2.length:Int)≤t6)) (W.ret (1:Int)) (W.req (0≤t6∧t6<(s2.length:Int)) (W.bind (cmp_Compare_string.F (rd (⟨#[]⟩:BA) s1 t6) (rd (⟨#[]⟩:BA) s2 t6)) (fun r5=>W.ite (r5 != (0:Int)) (W.ret r5) (A1 (w64 (t6+(1:Int))))))))) (K1)
def Jf.F (s1:(List BA)) (s2:(List BA)):W Int:=W.ex fun n=>W.iter1 (Jf.l1 s1 s2 (Jf.c1 s1 s2)) n (0:Int)
theorem Jf.ok {s1:(List BA)} {s2:(List BA)} {Q:Int→Prop} (hF:Jf.F s1 s2 Q):Con Tryz.prog 41 [.tv (kSlice kStr) s1,.tv (kSlice kStr) s2] [] (fun ta rs'=>∃ (r:Int),Q r∧ta=.tv (kInt .i64) r∧rs'=[]):=by
 refine Con.i Tryz.func41 Tryz.ntmps41 R R (fun C=>?_)
 unfold Jf.F at hF
 refine At.seq (At.region (At.d R R R R (jd (x:=(.tv (kInt .i64) (0:Int))) (ji _ _)) ?_))
 refine At.done (At.vh ?_)
 refine At.cut (fun rs L=>∃ _:Unit,Jf.c1 s1 s2 Q∧rs=[]∧L=mkL [(0,(.tv (kSlice kStr) s1)),(1,(.tv (kSlice kStr) s2))]) ?_ ?_
 ·refine At.seq (At.region (At.d R R R R (jb (x:=(.tv (kSlice kStr) s1)) (ja R)) ?_))
  refine At.d R R R R (js (ja R) Tryz.underlying41) ?_
  refine At.d R R R R (jb (x:=(.tv (kInt .i64) (0:Int))) (ji _ _)) ?_
  refine At.done (At.vh (At.block ?_))
  obtain ⟨n1,hF⟩:=hF
  refine At.w [] R [(0,(.tv (kSlice kStr) s1)),(1,(.tv (kSlice kStr) s2)),(9,(.tv (kSlice kStr) s1)),(10,(.tv (kInt .i64) (s1.length:Int))),(11,(.tv (kInt .i64) (0:Int)))] ⟨R,R,R,R,R,trivial⟩ ?_
  refine At.loop (fun m rs L=>∃ (t6:Int),W.iter1 (Jf.l1 s1 s2 (Jf.c1 s1 s2)) m t6 Q∧rs=[]∧L=mkL [(0,(.tv (kSlice kStr) s1)),(1,(.tv (kSlice kStr) s2)),(9,(.tv (kSlice kStr) s1)),(10,(.tv (kInt .i64) (s1.length:Int))),(11,(.tv (kInt .i64) t6))]) ?_ ?_ (m:=n1) ⟨(0:Int),hF,R,R⟩
  ·rintro rs L ⟨_,hF,_,_⟩;exact hF
  ·rintro m1 _ _ ⟨t6,hF,rfl,rfl⟩
   replace hF:=W.iter1_s hF
   unfold Jf.l1 at hF
   refine At.seq (At.region (At.d R R R R (jk (ja R) (ja R) vd) ?_))
   refine At.done (At.vh (At.seq ?_))
   refine At.cond (ja R) (fun hb14=>?_) (fun hb14=>?_)
   ·replace hF:=W.ite_t hb14 hF
    refine At.skip (At.vh (At.seq (At.block (At.seq (At.region (At.d R R R R (jb (x:=(.tv (kInt .i64) t6)) (ja R)) ?_))))))
    obtain ⟨hq9,hF⟩:=hF
    refine At.d R R R R (vf (⟨#[]⟩:BA) (ja R) (ja R) Tryz.underlying41 ty_9 hq9) ?_
    refine At.d R R R R (vq (K:=kStr) (ja R) ty_9) ?_
    refine At.d R R R R (jd (x:=(.tv (kInt .i64) t6)) (ja R)) ?_
    refine At.d R R R R (jd (x:=(.tv kStr (rd (⟨#[]⟩:BA) s1 t6))) (ja R)) ?_
    refine At.done (At.vh (At.seq (At.seq (At.region (At.d R R R R (jb (x:=(.tv (kInt .i64) t6)) (ja R)) ?_)))))
    refine At.d R R R R (jb (x:=(.tv (kSlice kStr) s2)) (ja R)) ?_
    refine At.d R R R R (js (ja R) Tryz.underlying41) ?_
    refine At.d R R R R (jk (ja R) (ja R) bin_geq) ?_
    refine At.done (At.vh ?_)
    refine At.cond (ja R) (fun hb15=>?_) (fun hb15=>?_)
    ·replace hF:=W.ite_t hb15 hF
     refine At.seq (At.region (At.d R R R R (jd (x:=(.tv (kInt .i64) (1:Int))) (ji _ _)) ?_))
     refine At.done (At.vh (At.ret (At.vi ?_)))
     refine At.q ?_
     refine At.vi (At.vi ?_)
     refine At.q ?_
     refine At.vi ?_
     exact At.j rfl (rv_tmp rfl) [] rfl ⟨(1:Int),hF,rfl,rfl⟩
    ·replace hF:=W.ite_f hb15 hF
     refine At.skip (At.vh (At.seq (At.region (At.d R R R R (jb (x:=(.tv (kSlice kStr) s2)) (ja R)) ?_))))
     refine At.d R R R R (jb (x:=(.tv (kInt .i64) t6)) (ja R)) ?_
     obtain ⟨hq10,hF⟩:=hF
     refine At.d R R R R (vf (⟨#[]⟩:BA) (ja R) (ja R) Tryz.underlying41 ty_9 hq10) ?_
     refine At.d R R R R (vq (K:=kStr) (ja R) ty_9) ?_
     refine At.d R R R R (jd (x:=(.tv kStr (rd (⟨#[]⟩:BA) s2 t6))) (ja R)) ?_
     refine At.done (At.vh (At.seq (At.region (At.d R R R R (jb (x:=(.tv kStr (rd (⟨#[]⟩:BA) s1 t6))) (ja R)) ?_))))
     refine At.d R R R R (jb (x:=(.tv kStr (rd (⟨#[]⟩:BA) s2 t6))) (ja R)) ?_
     replace hF:=W.vm hF
     refine At.f R (jn R R jp (jq R en_73 (jf (ja R) (jf (ja R) jg))) (cmp_Compare_string.ok hF) (by rintro _ _ ⟨r,_,rfl,_⟩;exact flat_int)) ?_
     rintro _ _ ⟨_,_,⟨r5,hF,rfl,rfl⟩,rfl,rfl⟩
     refine At.d R R R R (jd (x:=(.tv (kInt .i64) r5)) (ja R)) ?_
     refine At.done (At.vh (At.seq (At.region (At.d R R R R (jb (x:=(.tv (kInt .i64) r5)) (ja R)) ?_))))
     refine At.d R R R R (jk (ja R) (ji _ _) bin_neq) ?_
     refine At.done (At.vh ?_)
     refine At.cond (ja R) (fun hb16=>?_) (fun hb16=>?_)
     ·replace hF:=W.ite_t hb16 hF
      refine At.seq (At.region (At.d R R R R (jb (x:=(.tv (kInt .i64) r5)) (ja R)) ?_))
      refine At.d R R R R (jd (x:=(.tv (kInt .i64) r5)) (ja R)) ?_
      refine At.done (At.vh (At.ret ?_))
      refine At.q ?_
      refine At.vi (At.vi ?_)
      refine At.q ?_
      refine At.vi ?_
      exact At.j rfl (rv_tmp rfl) [] rfl ⟨r5,hF,rfl,rfl⟩
     ·replace hF:=W.ite_f hb16 hF
      refine At.skip ?_
      refine At.n ?_
      refine At.vh (At.region (At.d R R R R (jk (ja R) (ji _ _) vc) ?_))
      refine At.d R R R R (jb (x:=(.tv (kInt .i64) (w64 (t6+(1:Int))))) (ja R)) ?_
      refine At.done (At.vh ?_)
      refine At.w [] R [(0,(.tv (kSlice kStr) s1)),(1,(.tv (kSlice kStr) s2)),(9,(.tv (kSlice kStr) s1)),(10,(.tv (kInt .i64) (s1.length:Int))),(11,(.tv (kInt .i64) (w64 (t6+(1:Int)))))] ⟨R,R,R,R,R,trivial⟩ (At.r ⟨(w64 (t6+(1:Int))),hF,R,R⟩)
   ·replace hF:=W.ite_f hb14 hF
    refine At.exit ?_
    refine At.x (At.x ?_)
    refine At.h ?_
    refine At.vh ?_
    refine At.w [] R [(0,(.tv (kSlice kStr) s1)),(1,(.tv (kSlice kStr) s2))] ⟨R,R,trivial⟩ (At.r ⟨(),hF,R,R⟩)
 ·rintro _ _ ⟨_,hF,rfl,rfl⟩
  unfold Jf.c1 at hF
  refine At.seq (At.seq (At.region (At.d R R R R (jb (x:=(.tv (kSlice kStr) s1)) (ja R)) ?_)))
  refine At.d R R R R (js (ja R) Tryz.underlying41) ?_
  refine At.d R R R R (jb (x:=(.tv (kSlice kStr) s2)) (ja R)) ?_
  refine At.d R R R R (js (ja R) Tryz.underlying41) ?_
  refine At.d R R R R (jk (ja R) (ja R) vd) ?_
  refine At.done (At.vh ?_)
  refine At.cond (ja R) (fun hb7=>?_) (fun hb7=>?_)
  ·replace hF:=W.ite_t hb7 hF
   refine At.seq (At.region (At.d R R R R (jd (x:=(.tv (kInt .i64) (-1:Int))) (ji _ _)) ?_))
   refine At.done (At.vh (At.ret (At.vi ?_)))
   exact At.j rfl (rv_tmp rfl) [] rfl ⟨(-1:Int),hF,rfl,rfl⟩
  ·replace hF:=W.ite_f hb7 hF
   refine At.skip (At.vh (At.seq (At.region (At.d R R R R (jd (x:=(.tv (kInt .i64) (0:Int))) (ji _ _)) ?_))))
   refine At.done (At.vh (At.ret ?_))
   exact At.j rfl (rv_tmp rfl) [] rfl ⟨(0:Int),hF,rfl,rfl⟩
def border_Check_2.F (a1:Violation) (b1:Violation):W Int:=W.bind (Jf.F a1.Ids b1.Ids) (fun r1=>W.ret r1)
theorem border_Check_2.ok {a1:Violation} {b1:Violation} {Q:Int→Prop} (hF:border_Check_2.F a1 b1 Q):Con Tryz.prog 40 [.tv kViolation a1,.tv kViolation b1] [] (fun ta rs'=>∃ (r:Int),Q r∧ta=.tv (kInt .i64) r∧rs'=[]):=by
 refine Con.i Tryz.func40 Tryz.ntmps40 R R (fun C=>?_)
 unfold border_Check_2.F at hF
 refine At.seq (At.region (At.f R (jw R R R (ja R)) ?_))
 rintro _ _ ⟨g1,rfl,rfl⟩
 refine At.f R (jw R R R (ja R)) ?_
 rintro _ _ ⟨g2,rfl,rfl⟩
 refine At.d R R R R (jd (x:=(.tv (kInt .i64) (0:Int))) (ji _ _)) ?_
 refine At.done (At.vh (At.seq (At.region (At.d R R R R (je (ja R) fa_43_2) ?_))))
 refine At.d R R R R (jc (ja R) 1 R sub_Violation_2 ty_41) ?_
 refine At.d R R R R (je (ja R) fa_43_2) ?_
 refine At.d R R R R (jc (ja R) 0 R sub_Violation_2 ty_41) ?_
 replace hF:=W.vm hF
 refine At.f R (jn R R jp (jq R en_41 (jf (ja R) (jf (ja R) jg))) (Jf.ok hF) (by rintro _ _ ⟨r,_,rfl,_⟩;exact flat_int)) ?_
 rintro _ _ ⟨_,_,⟨r1,hF,rfl,rfl⟩,rfl,rfl⟩
 refine At.d R R R R (jd (x:=(.tv (kInt .i64) r1)) (ja R)) ?_
 refine At.done (At.vh (At.ret ?_))
 exact At.j rfl (rv_tmp rfl) [] rfl ⟨r1,hF,rfl,rfl⟩
def slices_SortFunc_api_Violation_api_Violation__o_border_Check_2.F (x:(List Violation)):W (List Violation):=W.sort (fun a b=>border_Check_2.F a b) x W.ret
theorem slices_SortFunc_api_Violation_api_Violation__o_border_Check_2.ok {x:(List Violation)} {u:Value} {Q:(List Violation)→Prop} (hF:slices_SortFunc_api_Violation_api_Violation__o_border_Check_2.F x Q):Con Tryz.prog 39 [.eq u,.cls 40 0 (tupl [])] [.row u 43 kViolation x] (fun ta rs'=>∃ (r:(List Violation)),Q r∧ta=.eq (.tuple #[])∧rs'=[.row u 43 kViolation r]):=by
 obtain ⟨hl,cf,hO,hc,hk⟩:=hF
 exact (con_sortFunc Tryz.sort39 rfl rfl ty_43 en_40 (fun a b ha hb=>(border_Check_2.ok (hc a b ha hb)).mono (by rintro ta rs' ⟨r,rfl,rfl,rfl⟩;rfl)) hO hl).mono (by rintro ta rs' ⟨ys,hp,hs,rfl,rfl⟩;exact ⟨ys,hk ys hp hs,rfl,rfl⟩)
end Go.Gp.Gb
end
