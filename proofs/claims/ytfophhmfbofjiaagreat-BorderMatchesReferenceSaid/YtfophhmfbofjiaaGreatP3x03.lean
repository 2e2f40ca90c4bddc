/- A part of the proof: see the last part. -/
import Derived.Test.YtfophhmfbofjiaaGreatP3x02
section
set_option linter.unusedVariables false
set_option linter.unusedSimpArgs false
set_option maxRecDepth 100000
namespace Go.Gp.Gb
open Go.Proofs
def border_Check.c4 (x91:(List Violation)):W (List Violation):=W.bind (slices_SortFunc_api_Violation_api_Violation__o_border_Check_2.F x91) (fun r35=>W.ret r35)
def border_Check.l1 (K4:(List Violation)→W (List Violation)) (A1:(List Violation)→(List ((BA×BA)×Bool))→W (List Violation)) (x96:(List Violation)) (x97:(List ((BA×BA)×Bool))):W (List Violation):=W.next x97 (((⟨#[]⟩:BA),(⟨#[]⟩:BA)),false) (fun b16 e16 l7=>W.ite b16 (W.req (b16=true) (W.bind (vn.F ([e16.1.1,e16.1.2]:List BA)) (fun r38=>W.req ((x96.length+([(⟨(⟨#[]⟩:BA),(2:Int),r38⟩:Violation)]:List Violation).length)*48≤140737488355328∧x96.length+([(⟨(⟨#[]⟩:BA),(2:Int),r38⟩:Violation)]:List Violation).length≤140737488355328) (A1 (x96++([(⟨(⟨#[]⟩:BA),(2:Int),r38⟩:Violation)]:List Violation)) l7)))) (K4 x96))
def border_Check.c3 (x84:(List ((BA×BA)×Bool))):W (List Violation):=W.ex fun n=>W.iter2 (border_Check.l1 (border_Check.c4)) n ([]:List Violation) x84
def border_Check.c6 (t69:Int) (A3:(List ((BA×BA)×Bool))→Int→W (List Violation)) (x146:(List ((BA×BA)×Bool))):W (List Violation):=A3 x146 (w64 (t69+(1:Int)))
def border_Check.l4 (x130:border_line) (x131:border_line) (t69:Int) (K6:(List ((BA×BA)×Bool))→W (List Violation)) (A4:(List ((BA×BA)×Bool))→Int→W (List Violation)) (x149:(List ((BA×BA)×Bool))) (t75:Int):W (List Violation):=W.ite (decide (t75<(x131.owners.length:Int))) (W.req (0≤t75∧t75<(x131.owners.length:Int)) (W.bind (border_Check_1__b.F (rd (⟨#[]⟩:BA) x130.owners t69) (rd (⟨#[]⟩:BA) x131.owners t75) x149) (fun r61=>A4 r61 (w64 (t75+(1:Int)))))) (K6 x149)
def border_Check.l3 (A2:(List ((Int×Int)×Int))→(List ((BA×BA)×Bool))→W (List Violation)) (l10:(List ((Int×Int)×Int))) (x130:border_line) (x131:border_line) (A3:(List ((BA×BA)×Bool))→Int→W (List Violation)) (x142:(List ((BA×BA)×Bool))) (t69:Int):W (List Violation):=W.ite (decide (t69<(x130.owners.length:Int))) (W.req (0≤t69∧t69<(x130.owners.length:Int)) (W.ex fun n=>W.iter2 (border_Check.l4 x130 x131 t69 (border_Check.c6 t69 A3)) n x142 (0:Int))) (A2 l10 x142)
def border_Check.c5 (x129:(List ((BA×BA)×Bool))) (A2:(List ((Int×Int)×Int))→(List ((BA×BA)×Bool))→W (List Violation)) (e22:((Int×Int)×Int)) (l10:(List ((Int×Int)×Int))) (x130:border_line) (x131:border_line):W (List Violation):=W.bind (Jh.F ([x131.nodes.1,x131.nodes.2]:List BA) x130.nodes.1) (fun r51=>W.bind (W.ite (!r51) (Jh.F ([x131.nodes.1,x131.nodes.2]:List BA) x130.nodes.2) (W.ret false)) (fun r52=>W.ite ((eq_a50 x130.nodes x131.nodes)||((e22.2==(1:Int))&&(r51||r52))) (A2 l10 x129) (W.ex fun n=>W.iter2 (border_Check.l3 A2 l10 x130 x131) n x129 (0:Int))))
def border_Check.l2 (r2:(List border_line)) (K3:(List ((BA×BA)×Bool))→W (List Violation)) (A2:(List ((Int×Int)×Int))→(List ((BA×BA)×Bool))→W (List Violation)) (x128:(List ((Int×Int)×Int))) (x129:(List ((BA×BA)×Bool))):W (List Violation):=W.next x128 (((0:Int),(0:Int)),(0:Int)) (fun b22 e22 l10=>W.ite b22 (W.req (b22=true) (W.req (0≤e22.1.1∧e22.1.1<(r2.length:Int)) (W.req (0≤e22.1.2∧e22.1.2<(r2.length:Int)) ((border_Check.c5 x129 A2 e22 l10) (rd zborder_line r2 e22.1.1) (rd zborder_line r2 e22.1.2))))) (K3 x129))
def border_Check.c2 (r1:(border_parcel×Bool)) (r2:(List border_line)) (x47:(List ((BA×BA)×Bool))) (x51:(List Int)):W (List Violation):=W.bind (Je.F r1.1 r2) (fun r19=>W.bind (vo.F r19 x51 ([]:(List ((Int×Int)×Int)))) (fun r20=>W.ex fun n=>W.iter2 (border_Check.l2 r2 (border_Check.c3)) n r20 x47))
def border_Check.l5 (r2:(List border_line)) (K2:(List Int)→W (List Violation)) (A5:(List Int)→Int→W (List Violation)) (x152:(List Int)) (t78:Int):W (List Violation):=W.ite (decide (t78<(r2.length:Int))) (W.req ((x152.length+([t78]:List Int).length)*8≤140737488355328∧x152.length+([t78]:List Int).length≤140737488355328) (A5 (x152++([t78]:List Int)) (w64 (t78+(1:Int))))) (K2 x152)
def border_Check.c1 (r1:(border_parcel×Bool)) (r2:(List border_line)) (x47:(List ((BA×BA)×Bool))):W (List Violation):=W.ex fun n=>W.iter2 (border_Check.l5 r2 (border_Check.c2 r1 r2 x47)) n ([]:List Int) (0:Int)
def border_Check.c7 (t99:Int) (A6:(List (Point×(List BA)))→(List ((BA×BA)×Bool))→Int→W (List Violation)) (x217:(List (Point×(List BA)))) (x218:(List ((BA×BA)×Bool))):W (List Violation):=A6 x217 x218 (w64 (t99+(1:Int)))
def border_Check.c8 (t117:Int) (A7:(List (Point×(List BA)))→(List ((BA×BA)×Bool))→Int→W (List Violation)) (x241:(List (Point×(List BA)))) (x242:(List ((BA×BA)×Bool))):W (List Violation):=A7 x241 x242 (w64 (t117+(1:Int)))
def border_Check.c9 (r2:(List border_line)) (t99:Int) (x235:(List (Point×(List BA)))) (t117:Int) (K8:(List (Point×(List BA)))→(List ((BA×BA)×Bool))→W (List Violation)) (r98:Point) (x246:(List ((BA×BA)×Bool))):W (List Violation):=W.req (((mget r98 ([]:List BA) x235).length+([(aget_50 ((rd zborder_line r2 t99).nodes) t117)]:List BA).length)*16≤140737488355328∧(mget r98 ([]:List BA) x235).length+([(aget_50 ((rd zborder_line r2 t99).nodes) t117)]:List BA).length≤140737488355328) (K8 (mset r98 ((mget r98 ([]:List BA) x235)++([(aget_50 ((rd zborder_line r2 t99).nodes) t117)]:List BA)) x235) x246)
def border_Check.l8 (r2:(List border_line)) (t99:Int) (x235:(List (Point×(List BA)))) (t117:Int) (r98:Point) (K9:(List ((BA×BA)×Bool))→W (List Violation)) (A8:(List ((BA×BA)×Bool))→Int→W (List Violation)) (x249:(List ((BA×BA)×Bool))) (t126:Int):W (List Violation):=W.ite (decide (t126<((mget r98 ([]:List BA) x235).length:Int))) (W.req (0≤t126∧t126<((mget r98 ([]:List BA) x235).length:Int)) (W.req (0≤t126∧t126<((mget r98 ([]:List BA) x235).length:Int)) (W.bind (border_Check_1__b.F (rd (⟨#[]⟩:BA) (mget r98 ([]:List BA) x235) t126) (aget_50 ((rd zborder_line r2 t99).nodes) t117) x249) (fun r104=>A8 r104 (w64 (t126+(1:Int))))))) (K9 x249)
def border_Check.l7 (r1:(border_parcel×Bool)) (r2:(List border_line)) (t99:Int) (K7:(List (Point×(List BA)))→(List ((BA×BA)×Bool))→W (List Violation)) (A7:(List (Point×(List BA)))→(List ((BA×BA)×Bool))→Int→W (List Violation)) (x235:(List (Point×(List BA)))) (x236:(List ((BA×BA)×Bool))) (t117:Int):W (List Violation):=W.ite (decide (t117<(2:Int))) (W.req (0≤t117∧t117<(2:Int)) (W.bind (border_parcel_point.F r1.1 (aget_50 ((rd zborder_line r2 t99).nodes) t117)) (fun r98=>W.bind (Jh.F (mget r98 ([]:List BA) x235) (aget_50 ((rd zborder_line r2 t99).nodes) t117)) (fun r99=>W.ite (!r99) (W.ex fun n=>W.iter2 (border_Check.l8 r2 t99 x235 t117 r98 (border_Check.c9 r2 t99 x235 t117 (border_Check.c8 t117 A7) r98)) n x236 (0:Int)) ((border_Check.c8 t117 A7) x235 x236))))) (K7 x235 x236)
def border_Check.l6 (r1:(border_parcel×Bool)) (r2:(List border_line)) (K1:(List ((BA×BA)×Bool))→W (List Violation)) (A6:(List (Point×(List BA)))→(List ((BA×BA)×Bool))→Int→W (List Violation)) (x197:(List (Point×(List BA)))) (x198:(List ((BA×BA)×Bool))) (t99:Int):W (List Violation):=W.ite (decide (t99<(r2.length:Int))) (W.req (0≤t99∧t99<(r2.length:Int)) (W.req (0≤t99∧t99<(r2.length:Int)) (W.ex fun n=>W.iter3 (border_Check.l7 r1 r2 t99 (border_Check.c7 t99 A6)) n x197 x198 (0:Int)))) (K1 x198)
def border_Check.F (m1:Map):W (List Violation):=W.bind (border_of.F m1) (fun r1=>W.ite (!r1.2) (W.ret ([]:List Violation)) (W.bind (vw.F r1.1) (fun r2=>W.ex fun n=>W.iter3 (border_Check.l6 r1 r2 (border_Check.c1 r1 r2)) n ([]:(List (Point×(List BA)))) ([]:(List ((BA×BA)×Bool))) (0:Int))))
theorem border_Check.ok {m1:Map} {Q:(List Violation)→Prop} (hF:border_Check.F m1 Q):Con Tryz.prog 16 [.tv kMap m1] [] (fun ta rs'=>∃ (r:(List Violation)) (u0:Value),Q r∧ta=.eq u0∧rs'=[.row u0 43 kViolation r]):=by
 refine Con.i Tryz.func16 Tryz.ntmps16 R R (fun C=>?_)
 unfold border_Check.F at hF
 refine At.seq (At.region (At.f R (jw R R R (ja R)) ?_))
 rintro _ _ ⟨g1,rfl,rfl⟩
 refine At.d R R R R (jd (x:=(.eq (.slice none 0 0))) (opd_eq _)) ?_
 refine At.done (At.vh (At.seq (At.region (At.d R R R R (jc (ja R) 0 R (Sub.self kMap) ty_24) ?_))))
 replace hF:=W.vm hF
 refine At.f R (jo R R (jq R en_30 (jf (ja R) jg)) [] R (border_of.ok hF)) ?_
 rintro _ _ ⟨_,_,⟨r1,hF,rfl,rfl⟩,rfl,rfl⟩
 refine At.d R R R R (jb (x:=(.tup2 (.tv kborder_parcel r1.1) (.tv kBool r1.2))) (ja R)) ?_
 refine At.d R R R R (does_extract20 (ja R)) ?_
 refine At.d R R R R (does_extract21 (ja R)) ?_
 refine At.f R (eff_alloc R R R tz_76) ?_
 rintro _ _ ⟨g2,rfl,rfl⟩
 refine At.f R (jx R R (ja R) 0 R (Sub.self kborder_parcel) ty_76 (ja R)) ?_
 rintro _ _ ⟨rfl,rfl⟩
 refine At.d R R R R (jd (x:=(.tv kBool r1.2)) (ja R)) ?_
 refine At.done (At.vh (At.seq (At.seq (At.region (At.d R R R R (jb (x:=(.tv kBool r1.2)) (ja R)) ?_)))))
 refine At.d R R R R (does_not (ja R)) ?_
 refine At.done (At.vh ?_)
 refine At.cond (ja R) (fun hb1=>?_) (fun hb1=>?_)
 ·replace hF:=W.ite_t hb1 hF
  refine At.seq (At.region (At.d R R R R (jd (x:=(.eq (.slice none 0 0))) (opd_eq _)) ?_))
  refine At.done (At.vh (At.ret (At.vi ?_)))
  refine At.nilrow 43 kViolation ?_
  exact At.j rfl (rv_tmp rfl) [0] rfl ⟨([]:List Violation),_,hF,rfl,rfl⟩
 ·replace hF:=W.ite_f hb1 hF
  refine At.skip (At.vh (At.seq (At.region (At.d R R R R (jc (ja R) 0 R (Sub.self kborder_parcel) ty_76) ?_))))
  replace hF:=W.vm hF
  refine At.f R (jo R R (jq R en_31 (jf (ja R) jg)) [] R (vw.ok hF)) ?_
  rintro _ _ ⟨_,_,⟨r2,v1,hF,rfl,rfl⟩,rfl,rfl⟩
  refine At.d R R R R (jd (x:=(.eq v1)) (ja R)) ?_
  refine At.done (At.vh (At.seq (At.region (At.f R (eff_makeMap R R R (kPair kStr kStr) kBool) ?_))))
  rintro _ _ ⟨g3,rfl,rfl⟩
  refine At.f R (eff_alloc R R R tz_47) ?_
  rintro _ _ ⟨g4,rfl,rfl⟩
  refine At.f R (eff_store_swap (K':=kRaw) (x':=(.map (some g3))) R R (ja R) 0 R (Swap.whole R) tyr_47 (opd_raw (ja R) R)) ?_
  rintro _ _ ⟨rfl,rfl⟩
  refine At.done (At.vh (At.seq (At.region (At.d R R R R (does_cls (firsts:=[]) (caps:=[.tmp 6]) R (jf (ja R) jg)) ?_))))
  refine At.d R R R R (jd (x:=(.cls 34 0 (tupl [(.eq (.pointer (some ⟨g4,0,none⟩)))]))) (ja R)) ?_
  refine At.done (At.vh (At.seq (At.region (At.f R (eff_makeMapR R R R kPoint 9 kStr) ?_))))
  rintro _ _ ⟨g5,rfl,rfl⟩
  refine At.d R R R R (jd (x:=(.eq (.map (some g5)))) (ja R)) ?_
  refine At.done (At.vh ?_)
  refine At.cut (fun rs L=>∃ (x47:(List ((BA×BA)×Bool))),border_Check.c1 r1 r2 x47 Q∧rs=[.box g2 76 kborder_parcel r1.1,.row v1 82 kborder_line r2,.box g4 47 kRaw (.map (some g3)),.map g3 (kPair kStr kStr) kBool x47]∧L=mkL [(3,(.eq (.pointer (some ⟨g2,0,none⟩)))),(5,(.eq v1)),(6,(.eq (.pointer (some ⟨g4,0,none⟩)))),(7,(.cls 34 0 (tupl [(.eq (.pointer (some ⟨g4,0,none⟩)))])))]) ?_ ?_
  ·refine At.seq (At.region (At.d R R R R (jb (x:=(.eq v1)) (ja R)) ?_))
   refine At.d R R R R (does_len_row (ja R) 3 R Tryz.underlying79) ?_
   refine At.d R R R R (jb (x:=(.tv (kInt .i64) (0:Int))) (ji _ _)) ?_
   refine At.done (At.vh (At.block ?_))
   obtain ⟨n8,hF⟩:=hF
   refine At.w [4,3,1,0,2] R [(3,(.eq (.pointer (some ⟨g2,0,none⟩)))),(5,(.eq v1)),(6,(.eq (.pointer (some ⟨g4,0,none⟩)))),(7,(.cls 34 0 (tupl [(.eq (.pointer (some ⟨g4,0,none⟩)))]))),(8,(.eq (.map (some g5)))),(42,(.eq v1)),(43,(.tv (kInt .i64) (r2.length:Int))),(44,(.tv (kInt .i64) (0:Int)))] ⟨R,R,R,R,R,R,R,R,trivial⟩ ?_
   refine At.loop (fun m rs L=>∃ (x197:(List (Point×(List BA)))) (w46:List Value) (x198:(List ((BA×BA)×Bool))) (t99:Int),W.iter3 (border_Check.l6 r1 r2 (border_Check.c1 r1 r2)) m x197 x198 t99 Q∧rs=[.box g2 76 kborder_parcel r1.1,.row v1 82 kborder_line r2,.box g4 47 kRaw (.map (some g3)),.mrow g5 kPoint 9 kStr w46 x197,.map g3 (kPair kStr kStr) kBool x198]∧L=mkL [(3,(.eq (.pointer (some ⟨g2,0,none⟩)))),(5,(.eq v1)),(6,(.eq (.pointer (some ⟨g4,0,none⟩)))),(7,(.cls 34 0 (tupl [(.eq (.pointer (some ⟨g4,0,none⟩)))]))),(8,(.eq (.map (some g5)))),(42,(.eq v1)),(43,(.tv (kInt .i64) (r2.length:Int))),(44,(.tv (kInt .i64) t99))]) ?_ ?_ (m:=n8) ⟨([]:(List (Point×(List BA)))),[],([]:(List ((BA×BA)×Bool))),(0:Int),hF,R,R⟩
   ·rintro rs L ⟨_,_,_,_,hF,_,_⟩;exact hF
   ·rintro m7 _ _ ⟨x197,w46,x198,t99,hF,rfl,rfl⟩
    replace hF:=W.iter3_s hF
    unfold border_Check.l6 at hF
    refine At.seq (At.region (At.d R R R R (jk (ja R) (ja R) vd) ?_))
    refine At.done (At.vh (At.seq ?_))
    refine At.cond (ja R) (fun hb94=>?_) (fun hb94=>?_)
    ·replace hF:=W.ite_t hb94 hF
     refine At.skip (At.vh ?_)
     refine At.cut (fun rs L=>∃ (x217:(List (Point×(List BA)))) (w56:List Value) (x218:(List ((BA×BA)×Bool))),border_Check.c7 t99 (W.iter3 (border_Check.l6 r1 r2 (border_Check.c1 r1 r2)) m7) x217 x218 Q∧rs=[.box g2 76 kborder_parcel r1.1,.row v1 82 kborder_line r2,.box g4 47 kRaw (.map (some g3)),.mrow g5 kPoint 9 kStr w56 x217,.map g3 (kPair kStr kStr) kBool x218]∧L=mkL [(3,(.eq (.pointer (some ⟨g2,0,none⟩)))),(5,(.eq v1)),(6,(.eq (.pointer (some ⟨g4,0,none⟩)))),(7,(.cls 34 0 (tupl [(.eq (.pointer (some ⟨g4,0,none⟩)))]))),(8,(.eq (.map (some g5)))),(42,(.eq v1)),(43,(.tv (kInt .i64) (r2.length:Int))),(44,(.tv (kInt .i64) t99))]) ?_ ?_
     ·refine At.block (At.seq (At.region ?_))
      obtain ⟨hq140,hF⟩:=hF
      refine At.d R R R R (does_idx_row (ja R) 1 R (ja R) Tryz.underlying79 ty_82 hq140) ?_
      obtain ⟨hq141,hF⟩:=hF
      refine At.d R R R R (Jc (ja R) 1 R t99 0 R zborder_line hq141 (Sub.self kborder_line) ty_82) ?_
      refine At.f R (eff_alloc R R R tz_82) ?_
      rintro _ _ ⟨g82,rfl,rfl⟩
      refine At.f R (jx R R (ja R) 0 R (Sub.self kborder_line) ty_82 (ja R)) ?_
      rintro _ _ ⟨rfl,rfl⟩
      refine At.done (At.vh (At.seq (At.region (At.d R R R R (je (ja R) fa_82_0) ?_))))
      refine At.d R R R R (jc (ja R) 0 R sub_border_line_0 ty_50) ?_
      refine At.d R R R R (jb (x:=(.tv (kInt .i64) (0:Int))) (ji _ _)) ?_
      refine At.done (At.vh (At.block ?_))
      obtain ⟨n7,hF⟩:=hF
      refine At.w [1,2,3,4,5] R [(3,(.eq (.pointer (some ⟨g2,0,none⟩)))),(5,(.eq v1)),(6,(.eq (.pointer (some ⟨g4,0,none⟩)))),(7,(.cls 34 0 (tupl [(.eq (.pointer (some ⟨g4,0,none⟩)))]))),(8,(.eq (.map (some g5)))),(42,(.eq v1)),(43,(.tv (kInt .i64) (r2.length:Int))),(44,(.tv (kInt .i64) t99)),(49,(.tv (kPair kStr kStr) ((rd zborder_line r2 t99).nodes))),(50,(.tv (kInt .i64) (0:Int)))] ⟨R,R,R,R,R,R,R,R,R,R,trivial⟩ ?_
      refine At.loop (fun m rs L=>∃ (x235:(List (Point×(List BA)))) (w65:List Value) (x236:(List ((BA×BA)×Bool))) (t117:Int),W.iter3 (border_Check.l7 r1 r2 t99 (border_Check.c7 t99 (W.iter3 (border_Check.l6 r1 r2 (border_Check.c1 r1 r2)) m7))) m x235 x236 t117 Q∧rs=[.box g2 76 kborder_parcel r1.1,.row v1 82 kborder_line r2,.box g4 47 kRaw (.map (some g3)),.mrow g5 kPoint 9 kStr w65 x235,.map g3 (kPair kStr kStr) kBool x236]∧L=mkL [(3,(.eq (.pointer (some ⟨g2,0,none⟩)))),(5,(.eq v1)),(6,(.eq (.pointer (some ⟨g4,0,none⟩)))),(7,(.cls 34 0 (tupl [(.eq (.pointer (some ⟨g4,0,none⟩)))]))),(8,(.eq (.map (some g5)))),(42,(.eq v1)),(43,(.tv (kInt .i64) (r2.length:Int))),(44,(.tv (kInt .i64) t99)),(49,(.tv (kPair kStr kStr) ((rd zborder_line r2 t99).nodes))),(50,(.tv (kInt .i64) t117))]) ?_ ?_ (m:=n7) ⟨x197,w46,x198,(0:Int),hF,R,R⟩
      ·rintro rs L ⟨_,_,_,_,hF,_,_⟩;exact hF
      ·rintro m8 _ _ ⟨x235,w65,x236,t117,hF,rfl,rfl⟩
       replace hF:=W.iter3_s hF
       unfold border_Check.l7 at hF
       refine At.seq (At.region (At.d R R R R (jk (ja R) (ji _ _) vd) ?_))
       refine At.done (At.vh (At.seq ?_))
       refine At.cond (ja R) (fun hb111=>?_) (fun hb111=>?_)
       ·replace hF:=W.ite_t hb111 hF
        refine At.skip (At.vh ?_)
        refine At.cut (fun rs L=>∃ (x241:(List (Point×(List BA)))) (w68:List Value) (x242:(List ((BA×BA)×Bool))),border_Check.c8 t117 (W.iter3 (border_Check.l7 r1 r2 t99 (border_Check.c7 t99 (W.iter3 (border_Check.l6 r1 r2 (border_Check.c1 r1 r2)) m7))) m8) x241 x242 Q∧rs=[.box g2 76 kborder_parcel r1.1,.row v1 82 kborder_line r2,.box g4 47 kRaw (.map (some g3)),.mrow g5 kPoint 9 kStr w68 x241,.map g3 (kPair kStr kStr) kBool x242]∧L=mkL [(3,(.eq (.pointer (some ⟨g2,0,none⟩)))),(5,(.eq v1)),(6,(.eq (.pointer (some ⟨g4,0,none⟩)))),(7,(.cls 34 0 (tupl [(.eq (.pointer (some ⟨g4,0,none⟩)))]))),(8,(.eq (.map (some g5)))),(42,(.eq v1)),(43,(.tv (kInt .i64) (r2.length:Int))),(44,(.tv (kInt .i64) t99)),(49,(.tv (kPair kStr kStr) ((rd zborder_line r2 t99).nodes))),(50,(.tv (kInt .i64) t117))]) ?_ ?_
        ·refine At.block (At.seq (At.region ?_))
         obtain ⟨hq160,hF⟩:=hF
         refine At.d R R R R (does_index_arr (n:=2) (sz:=1) (K:=(kPair kStr kStr)) R (ja R) (ja R) Tryz.underlying50 ty_9 R hq160 (subv_50 hq160)) ?_
         refine At.d R R R R (jd (x:=(.tv kStr (aget_50 ((rd zborder_line r2 t99).nodes) t117))) (ja R)) ?_
         refine At.done (At.vh (At.seq (At.region (At.d R R R R (jc (ja R) 0 R (Sub.self kborder_parcel) ty_76) ?_))))
         refine At.d R R R R (jb (x:=(.tv kStr (aget_50 ((rd zborder_line r2 t99).nodes) t117))) (ja R)) ?_
         replace hF:=W.vm hF
         refine At.f R (jn R R jp (jq R en_35 (jf (ja R) (jf (ja R) jg))) (border_parcel_point.ok hF) (by rintro _ _ ⟨r,_,rfl,_⟩;exact (flat_tv flat_Point))) ?_
         rintro _ _ ⟨_,_,⟨r98,hF,rfl,rfl⟩,rfl,rfl⟩
         refine At.f R (eff_alloc R R R tz_37) ?_
         rintro _ _ ⟨g86,rfl,rfl⟩
         refine At.f R (jx R R (ja R) 0 R (Sub.self kPoint) ty_37 (ja R)) ?_
         rintro _ _ ⟨rfl,rfl⟩
         refine At.done (At.vh (At.seq (At.region (At.d R R R R (jb (x:=(.eq (.map (some g5)))) (ja R)) ?_))))
         refine At.d R R R R (jc (ja R) 0 R (Sub.self kPoint) ty_37) ?_
         refine At.f R (eff_lookR R R R (ja R) 4 R mtr_86 (ja R)) ?_
         rintro _ _ ⟨v107,j40,s40,rfl,rfl⟩
         refine At.d R R R R (jb (x:=(.tv kStr (aget_50 ((rd zborder_line r2 t99).nodes) t117))) (ja R)) ?_
         replace hF:=W.vm hF
         refine At.f R (jn R R (lends_row 0 58 R R jp) (jq R en_36 (jf (ja R) (jf (ja R) jg))) (Jh.ok hF) (by rintro _ _ ⟨r,_,rfl,_⟩;exact vl)) ?_
         rintro _ _ ⟨_,_,⟨r99,hF,rfl,rfl⟩,rfl,rfl⟩
         refine At.d R R R R (does_not (ja R)) ?_
         refine At.done (At.vh ?_)
         refine At.cond (ja R) (fun hb115=>?_) (fun hb115=>?_)
         ·replace hF:=W.ite_t hb115 hF
          refine At.cut (fun rs L=>∃ (x246:(List ((BA×BA)×Bool))),border_Check.c9 r2 t99 x235 t117 (border_Check.c8 t117 (W.iter3 (border_Check.l7 r1 r2 t99 (border_Check.c7 t99 (W.iter3 (border_Check.l6 r1 r2 (border_Check.c1 r1 r2)) m7))) m8)) r98 x246 Q∧rs=[.box g2 76 kborder_parcel r1.1,.row v1 82 kborder_line r2,.box g4 47 kRaw (.map (some g3)),.mrow g5 kPoint 9 kStr w65 x235,.box g86 37 kPoint r98,.map g3 (kPair kStr kStr) kBool x246]∧L=mkL [(3,(.eq (.pointer (some ⟨g2,0,none⟩)))),(5,(.eq v1)),(6,(.eq (.pointer (some ⟨g4,0,none⟩)))),(7,(.cls 34 0 (tupl [(.eq (.pointer (some ⟨g4,0,none⟩)))]))),(8,(.eq (.map (some g5)))),(12,(.tv kStr (aget_50 ((rd zborder_line r2 t99).nodes) t117))),(13,(.eq (.pointer (some ⟨g86,0,none⟩)))),(42,(.eq v1)),(43,(.tv (kInt .i64) (r2.length:Int))),(44,(.tv (kInt .i64) t99)),(49,(.tv (kPair kStr kStr) ((rd zborder_line r2 t99).nodes))),(50,(.tv (kInt .i64) t117))]) ?_ ?_
          ·refine At.seq (At.region (At.d R R R R (jb (x:=(.eq (.map (some g5)))) (ja R)) ?_))
           refine At.d R R R R (jc (ja R) 1 R (Sub.self kPoint) ty_37) ?_
           refine At.mclose 5 0 R R R ?_
           refine At.f R (eff_lookR R R R (ja R) 5 R mtr_86 (ja R)) ?_
           rintro _ _ ⟨v112,j43,s43,rfl,rfl⟩
           refine At.d R R R R (does_len_row (ja R) 0 R Tryz.underlying41) ?_
           refine At.d R R R R (jb (x:=(.tv (kInt .i64) (0:Int))) (ji _ _)) ?_
           refine At.done (At.vh (At.block ?_))
           obtain ⟨n6,hF⟩:=hF
           refine At.w [3,4,5,6,2,0,7] R [(3,(.eq (.pointer (some ⟨g2,0,none⟩)))),(5,(.eq v1)),(6,(.eq (.pointer (some ⟨g4,0,none⟩)))),(7,(.cls 34 0 (tupl [(.eq (.pointer (some ⟨g4,0,none⟩)))]))),(8,(.eq (.map (some g5)))),(12,(.tv kStr (aget_50 ((rd zborder_line r2 t99).nodes) t117))),(13,(.eq (.pointer (some ⟨g86,0,none⟩)))),(42,(.eq v1)),(43,(.tv (kInt .i64) (r2.length:Int))),(44,(.tv (kInt .i64) t99)),(49,(.tv (kPair kStr kStr) ((rd zborder_line r2 t99).nodes))),(50,(.tv (kInt .i64) t117)),(64,(.eq v112)),(65,(.tv (kInt .i64) ((mget r98 ([]:List BA) x235).length:Int))),(66,(.tv (kInt .i64) (0:Int)))] ⟨R,R,R,R,R,R,R,R,R,R,R,R,R,R,R,trivial⟩ ?_
           refine At.loop (fun m rs L=>∃ (x249:(List ((BA×BA)×Bool))) (t126:Int),W.iter2 (border_Check.l8 r2 t99 x235 t117 r98 (border_Check.c9 r2 t99 x235 t117 (border_Check.c8 t117 (W.iter3 (border_Check.l7 r1 r2 t99 (border_Check.c7 t99 (W.iter3 (border_Check.l6 r1 r2 (border_Check.c1 r1 r2)) m7))) m8)) r98)) m x249 t126 Q∧rs=[.box g2 76 kborder_parcel r1.1,.row v1 82 kborder_line r2,.box g4 47 kRaw (.map (some g3)),.mhole g5 kPoint 9 kStr w65 x235 r98 j43 v112 s43,.box g86 37 kPoint r98,.row v112 9 kStr (mget r98 ([]:List BA) x235),.map g3 (kPair kStr kStr) kBool x249]∧L=mkL [(3,(.eq (.pointer (some ⟨g2,0,none⟩)))),(5,(.eq v1)),(6,(.eq (.pointer (some ⟨g4,0,none⟩)))),(7,(.cls 34 0 (tupl [(.eq (.pointer (some ⟨g4,0,none⟩)))]))),(8,(.eq (.map (some g5)))),(12,(.tv kStr (aget_50 ((rd zborder_line r2 t99).nodes) t117))),(13,(.eq (.pointer (some ⟨g86,0,none⟩)))),(42,(.eq v1)),(43,(.tv (kInt .i64) (r2.length:Int))),(44,(.tv (kInt .i64) t99)),(49,(.tv (kPair kStr kStr) ((rd zborder_line r2 t99).nodes))),(50,(.tv (kInt .i64) t117)),(64,(.eq v112)),(65,(.tv (kInt .i64) ((mget r98 ([]:List BA) x235).length:Int))),(66,(.tv (kInt .i64) t126))]) ?_ ?_ (m:=n6) ⟨x236,(0:Int),hF,R,R⟩
           ·rintro rs L ⟨_,_,hF,_,_⟩;exact hF
           ·rintro m9 _ _ ⟨x249,t126,hF,rfl,rfl⟩
            replace hF:=W.iter2_s hF
            unfold border_Check.l8 at hF
            refine At.seq (At.region (At.d R R R R (jk (ja R) (ja R) vd) ?_))
            refine At.done (At.vh (At.seq ?_))
            refine At.cond (ja R) (fun hb120=>?_) (fun hb120=>?_)
            ·replace hF:=W.ite_t hb120 hF
             refine At.skip (At.vh (At.seq (At.block (At.seq (At.region ?_)))))
             obtain ⟨hq170,hF⟩:=hF
             refine At.d R R R R (does_idx_row (ja R) 5 R (ja R) Tryz.underlying41 ty_9 hq170) ?_
             obtain ⟨hq171,hF⟩:=hF
             refine At.d R R R R (Jc (ja R) 5 R t126 0 R (⟨#[]⟩:BA) hq171 (Sub.self kStr) ty_9) ?_
             refine At.d R R R R (jd (x:=(.tv kStr (rd (⟨#[]⟩:BA) (mget r98 ([]:List BA) x235) t126))) (ja R)) ?_
             refine At.done (At.vh (At.region (At.d R R R R (jb (x:=(.cls 34 0 (tupl [(.eq (.pointer (some ⟨g4,0,none⟩)))]))) (ja R)) ?_)))
             refine At.d R R R R (jb (x:=(.tv kStr (rd (⟨#[]⟩:BA) (mget r98 ([]:List BA) x235) t126))) (ja R)) ?_
             refine At.d R R R R (jb (x:=(.tv kStr (aget_50 ((rd zborder_line r2 t99).nodes) t117))) (ja R)) ?_
             replace hF:=W.vm hF
             refine At.f R (jo R R (ent_val0 R (ja R) en_34 (jf (ja R) (jf (ja R) jg))) [2,6] R (border_Check_1__b.ok hF)) ?_
             rintro _ _ ⟨_,_,⟨r104,hF,rfl,rfl⟩,rfl,rfl⟩
             refine At.done ?_
             refine At.n ?_
             refine At.vh (At.region (At.d R R R R (jk (ja R) (ji _ _) vc) ?_))
             refine At.d R R R R (jb (x:=(.tv (kInt .i64) (w64 (t126+(1:Int))))) (ja R)) ?_
             refine At.done (At.vh ?_)
             refine At.w [2,3,0,5,6,7,1] R [(3,(.eq (.pointer (some ⟨g2,0,none⟩)))),(5,(.eq v1)),(6,(.eq (.pointer (some ⟨g4,0,none⟩)))),(7,(.cls 34 0 (tupl [(.eq (.pointer (some ⟨g4,0,none⟩)))]))),(8,(.eq (.map (some g5)))),(12,(.tv kStr (aget_50 ((rd zborder_line r2 t99).nodes) t117))),(13,(.eq (.pointer (some ⟨g86,0,none⟩)))),(42,(.eq v1)),(43,(.tv (kInt .i64) (r2.length:Int))),(44,(.tv (kInt .i64) t99)),(49,(.tv (kPair kStr kStr) ((rd zborder_line r2 t99).nodes))),(50,(.tv (kInt .i64) t117)),(64,(.eq v112)),(65,(.tv (kInt .i64) ((mget r98 ([]:List BA) x235).length:Int))),(66,(.tv (kInt .i64) (w64 (t126+(1:Int)))))] ⟨R,R,R,R,R,R,R,R,R,R,R,R,R,R,R,trivial⟩ (At.r ⟨r104,(w64 (t126+(1:Int))),hF,R,R⟩)
            ·replace hF:=W.ite_f hb120 hF
             refine At.exit ?_
             refine At.x (At.x ?_)
             refine At.h ?_
             refine At.vh ?_
             refine At.mclose 3 5 R R R ?_
             refine At.w [0,1,2,3,4,6] R [(3,(.eq (.pointer (some ⟨g2,0,none⟩)))),(5,(.eq v1)),(6,(.eq (.pointer (some ⟨g4,0,none⟩)))),(7,(.cls 34 0 (tupl [(.eq (.pointer (some ⟨g4,0,none⟩)))]))),(8,(.eq (.map (some g5)))),(12,(.tv kStr (aget_50 ((rd zborder_line r2 t99).nodes) t117))),(13,(.eq (.pointer (some ⟨g86,0,none⟩)))),(42,(.eq v1)),(43,(.tv (kInt .i64) (r2.length:Int))),(44,(.tv (kInt .i64) t99)),(49,(.tv (kPair kStr kStr) ((rd zborder_line r2 t99).nodes))),(50,(.tv (kInt .i64) t117))] ⟨R,R,R,R,R,R,R,R,R,R,R,R,trivial⟩ (At.r ⟨x249,hF,R,R⟩)
          ·rintro _ _ ⟨x246,hF,rfl,rfl⟩
           unfold border_Check.c9 at hF
           refine At.region (At.d R R R R (jb (x:=(.eq (.map (some g5)))) (ja R)) ?_)
           refine At.d R R R R (jc (ja R) 4 R (Sub.self kPoint) ty_37) ?_
           refine At.d R R R R (jb (x:=(.tv kStr (aget_50 ((rd zborder_line r2 t99).nodes) t117))) (ja R)) ?_
           refine At.f R (jy R R R (os:=[.tmp 78]) R sl_41 (xs:=([(aget_50 ((rd zborder_line r2 t99).nodes) t117)]:List BA)) (jf (ja R) jg) R R) ?_
           rintro _ _ ⟨v109,rfl,rfl⟩
           refine At.f R (eff_mapEntry R R R (ja R) 4 R mtr_86 (ja R)) ?_
           rintro _ _ ⟨v110,w69,j42,s42,rfl,rfl⟩
           refine At.d R R R R (does_extract20 (ja R)) ?_
           obtain ⟨hq165,hF⟩:=hF
           refine At.f R (eff_append_row R R R 0 1 R R (ja R) (ja R) sl_41 hq165) ?_
           rintro _ _ ⟨v111,rfl,rfl⟩
           refine At.d R R R R (does_extract21 (ja R)) ?_
           refine At.f R (eff_entryStore R R (ja R) 5 0 R R (ja R) R (ja R)) ?_
           rintro _ _ ⟨w70,rfl,rfl⟩
           refine At.done ?_
           refine At.n ?_
           refine At.vh ?_
           refine At.w [2,3,4,5,7] R [(3,(.eq (.pointer (some ⟨g2,0,none⟩)))),(5,(.eq v1)),(6,(.eq (.pointer (some ⟨g4,0,none⟩)))),(7,(.cls 34 0 (tupl [(.eq (.pointer (some ⟨g4,0,none⟩)))]))),(8,(.eq (.map (some g5)))),(42,(.eq v1)),(43,(.tv (kInt .i64) (r2.length:Int))),(44,(.tv (kInt .i64) t99)),(49,(.tv (kPair kStr kStr) ((rd zborder_line r2 t99).nodes))),(50,(.tv (kInt .i64) t117))] ⟨R,R,R,R,R,R,R,R,R,R,trivial⟩ (At.r ⟨(mset r98 ((mget r98 ([]:List BA) x235)++([(aget_50 ((rd zborder_line r2 t99).nodes) t117)]:List BA)) x235),w70,x246,hF,R,R⟩)
         ·replace hF:=W.ite_f hb115 hF
          refine At.skip ?_
          refine At.n ?_
          refine At.vh ?_
          refine At.mclose 5 0 R R R ?_
          refine At.w [2,3,4,5,6] R [(3,(.eq (.pointer (some ⟨g2,0,none⟩)))),(5,(.eq v1)),(6,(.eq (.pointer (some ⟨g4,0,none⟩)))),(7,(.cls 34 0 (tupl [(.eq (.pointer (some ⟨g4,0,none⟩)))]))),(8,(.eq (.map (some g5)))),(42,(.eq v1)),(43,(.tv (kInt .i64) (r2.length:Int))),(44,(.tv (kInt .i64) t99)),(49,(.tv (kPair kStr kStr) ((rd zborder_line r2 t99).nodes))),(50,(.tv (kInt .i64) t117))] ⟨R,R,R,R,R,R,R,R,R,R,trivial⟩ (At.r ⟨x235,w65,x236,hF,R,R⟩)
        ·rintro _ _ ⟨x241,w68,x242,hF,rfl,rfl⟩
         unfold border_Check.c8 at hF
         refine At.region (At.d R R R R (jk (ja R) (ji _ _) vc) ?_)
         refine At.d R R R R (jb (x:=(.tv (kInt .i64) (w64 (t117+(1:Int))))) (ja R)) ?_
         refine At.done (At.vh ?_)
         refine At.w [0,1,2,3,4] R [(3,(.eq (.pointer (some ⟨g2,0,none⟩)))),(5,(.eq v1)),(6,(.eq (.pointer (some ⟨g4,0,none⟩)))),(7,(.cls 34 0 (tupl [(.eq (.pointer (some ⟨g4,0,none⟩)))]))),(8,(.eq (.map (some g5)))),(42,(.eq v1)),(43,(.tv (kInt .i64) (r2.length:Int))),(44,(.tv (kInt .i64) t99)),(49,(.tv (kPair kStr kStr) ((rd zborder_line r2 t99).nodes))),(50,(.tv (kInt .i64) (w64 (t117+(1:Int)))))] ⟨R,R,R,R,R,R,R,R,R,R,trivial⟩ (At.r ⟨x241,w68,x242,(w64 (t117+(1:Int))),hF,R,R⟩)
       ·replace hF:=W.ite_f hb111 hF
        refine At.exit ?_
        refine At.x (At.x ?_)
        refine At.h ?_
        refine At.n ?_
        refine At.vh ?_
        refine At.w [0,1,2,3,4] R [(3,(.eq (.pointer (some ⟨g2,0,none⟩)))),(5,(.eq v1)),(6,(.eq (.pointer (some ⟨g4,0,none⟩)))),(7,(.cls 34 0 (tupl [(.eq (.pointer (some ⟨g4,0,none⟩)))]))),(8,(.eq (.map (some g5)))),(42,(.eq v1)),(43,(.tv (kInt .i64) (r2.length:Int))),(44,(.tv (kInt .i64) t99))] ⟨R,R,R,R,R,R,R,R,trivial⟩ (At.r ⟨x235,w65,x236,hF,R,R⟩)
     ·rintro _ _ ⟨x217,w56,x218,hF,rfl,rfl⟩
      unfold border_Check.c7 at hF
      refine At.region (At.d R R R R (jk (ja R) (ji _ _) vc) ?_)
      refine At.d R R R R (jb (x:=(.tv (kInt .i64) (w64 (t99+(1:Int))))) (ja R)) ?_
      refine At.done (At.vh ?_)
      refine At.w [0,1,2,3,4] R [(3,(.eq (.pointer (some ⟨g2,0,none⟩)))),(5,(.eq v1)),(6,(.eq (.pointer (some ⟨g4,0,none⟩)))),(7,(.cls 34 0 (tupl [(.eq (.pointer (some ⟨g4,0,none⟩)))]))),(8,(.eq (.map (some g5)))),(42,(.eq v1)),(43,(.tv (kInt .i64) (r2.length:Int))),(44,(.tv (kInt .i64) (w64 (t99+(1:Int)))))] ⟨R,R,R,R,R,R,R,R,trivial⟩ (At.r ⟨x217,w56,x218,(w64 (t99+(1:Int))),hF,R,R⟩)
    ·replace hF:=W.ite_f hb94 hF
     refine At.exit ?_
     refine At.x (At.x ?_)
     refine At.h ?_
     refine At.vh ?_
     refine At.w [0,1,2,4] R [(3,(.eq (.pointer (some ⟨g2,0,none⟩)))),(5,(.eq v1)),(6,(.eq (.pointer (some ⟨g4,0,none⟩)))),(7,(.cls 34 0 (tupl [(.eq (.pointer (some ⟨g4,0,none⟩)))])))] ⟨R,R,R,R,trivial⟩ (At.r ⟨x198,hF,R,R⟩)
  ·rintro _ _ ⟨x47,hF,rfl,rfl⟩
   unfold border_Check.c1 at hF
   refine At.seq (At.region (At.d R R R R (jd (x:=(.eq (.slice none 0 0))) (opd_eq _)) ?_))
   refine At.done (At.vh ?_)
   refine At.cut (fun rs L=>∃ (x51:(List Int)) (v29:Value),border_Check.c2 r1 r2 x47 x51 Q∧rs=[.box g2 76 kborder_parcel r1.1,.row v1 82 kborder_line r2,.box g4 47 kRaw (.map (some g3)),.row v29 3 (kInt .i64) x51,.map g3 (kPair kStr kStr) kBool x47]∧L=mkL [(3,(.eq (.pointer (some ⟨g2,0,none⟩)))),(5,(.eq v1)),(6,(.eq (.pointer (some ⟨g4,0,none⟩)))),(7,(.cls 34 0 (tupl [(.eq (.pointer (some ⟨g4,0,none⟩)))]))),(16,(.eq v29))]) ?_ ?_
   ·refine At.seq (At.region (At.d R R R R (jb (x:=(.eq v1)) (ja R)) ?_))
    refine At.d R R R R (does_len_row (ja R) 1 R Tryz.underlying79) ?_
    refine At.d R R R R (jb (x:=(.tv (kInt .i64) (0:Int))) (ji _ _)) ?_
    refine At.done (At.vh (At.block ?_))
    refine At.nilrow 3 (kInt .i64) ?_
    obtain ⟨n5,hF⟩:=hF
    refine At.w [1,2,3,0,4] R [(3,(.eq (.pointer (some ⟨g2,0,none⟩)))),(5,(.eq v1)),(6,(.eq (.pointer (some ⟨g4,0,none⟩)))),(7,(.cls 34 0 (tupl [(.eq (.pointer (some ⟨g4,0,none⟩)))]))),(16,(.eq (.slice none 0 0))),(86,(.tv (kInt .i64) (r2.length:Int))),(87,(.tv (kInt .i64) (0:Int)))] ⟨R,R,R,R,R,R,R,trivial⟩ ?_
    refine At.loop (fun m rs L=>∃ (x152:(List Int)) (v59:Value) (t78:Int),W.iter2 (border_Check.l5 r2 (border_Check.c2 r1 r2 x47)) m x152 t78 Q∧rs=[.box g2 76 kborder_parcel r1.1,.row v1 82 kborder_line r2,.box g4 47 kRaw (.map (some g3)),.row v59 3 (kInt .i64) x152,.map g3 (kPair kStr kStr) kBool x47]∧L=mkL [(3,(.eq (.pointer (some ⟨g2,0,none⟩)))),(5,(.eq v1)),(6,(.eq (.pointer (some ⟨g4,0,none⟩)))),(7,(.cls 34 0 (tupl [(.eq (.pointer (some ⟨g4,0,none⟩)))]))),(16,(.eq v59)),(86,(.tv (kInt .i64) (r2.length:Int))),(87,(.tv (kInt .i64) t78))]) ?_ ?_ (m:=n5) ⟨([]:List Int),(.slice none 0 0),(0:Int),hF,R,R⟩
    ·rintro rs L ⟨_,_,_,hF,_,_⟩;exact hF
    ·rintro m6 _ _ ⟨x152,v59,t78,hF,rfl,rfl⟩
     replace hF:=W.iter2_s hF
     unfold border_Check.l5 at hF
     refine At.seq (At.region (At.d R R R R (jk (ja R) (ja R) vd) ?_))
     refine At.done (At.vh (At.seq ?_))
     refine At.cond (ja R) (fun hb75=>?_) (fun hb75=>?_)
     ·replace hF:=W.ite_t hb75 hF
      refine At.skip (At.vh (At.seq (At.block (At.seq (At.region (At.d R R R R (jb (x:=(.tv (kInt .i64) t78)) (ja R)) ?_))))))
      refine At.d R R R R (jd (x:=(.tv (kInt .i64) t78)) (ja R)) ?_
      refine At.done (At.vh (At.region (At.d R R R R (jb (x:=(.eq v59)) (ja R)) ?_)))
      refine At.d R R R R (jb (x:=(.tv (kInt .i64) t78)) (ja R)) ?_
      refine At.f R (jy R R R (os:=[.tmp 91]) R sl_89 (xs:=([t78]:List Int)) (jf (ja R) jg) R R) ?_
      rintro _ _ ⟨v60,rfl,rfl⟩
      obtain ⟨hq97,hF⟩:=hF
      refine At.f R (eff_append_row R R R 4 0 R R (ja R) (ja R) sl_89 hq97) ?_
      rintro _ _ ⟨v61,rfl,rfl⟩
      refine At.d R R R R (jd (x:=(.eq v61)) (ja R)) ?_
      refine At.done ?_
      refine At.n ?_
      refine At.vh (At.region (At.d R R R R (jk (ja R) (ji _ _) vc) ?_))
      refine At.d R R R R (jb (x:=(.tv (kInt .i64) (w64 (t78+(1:Int))))) (ja R)) ?_
      refine At.done (At.vh ?_)
      refine At.w [1,2,3,4,5] R [(3,(.eq (.pointer (some ⟨g2,0,none⟩)))),(5,(.eq v1)),(6,(.eq (.pointer (some ⟨g4,0,none⟩)))),(7,(.cls 34 0 (tupl [(.eq (.pointer (some ⟨g4,0,none⟩)))]))),(16,(.eq v61)),(86,(.tv (kInt .i64) (r2.length:Int))),(87,(.tv (kInt .i64) (w64 (t78+(1:Int)))))] ⟨R,R,R,R,R,R,R,trivial⟩ (At.r ⟨(x152++([t78]:List Int)),v61,(w64 (t78+(1:Int))),hF,R,R⟩)
     ·replace hF:=W.ite_f hb75 hF
      refine At.exit ?_
      refine At.x (At.x ?_)
      refine At.h ?_
      refine At.vh ?_
      refine At.w [0,1,2,3,4] R [(3,(.eq (.pointer (some ⟨g2,0,none⟩)))),(5,(.eq v1)),(6,(.eq (.pointer (some ⟨g4,0,none⟩)))),(7,(.cls 34 0 (tupl [(.eq (.pointer (some ⟨g4,0,none⟩)))]))),(16,(.eq v59))] ⟨R,R,R,R,R,trivial⟩ (At.r ⟨x152,v59,hF,R,R⟩)
   ·rintro _ _ ⟨x51,v29,hF,rfl,rfl⟩
    unfold border_Check.c2 at hF
    refine At.seq (At.region (At.f R (eff_makeMap R R R (kPair (kInt .i64) (kInt .i64)) (kInt .i64)) ?_))
    rintro _ _ ⟨g12,rfl,rfl⟩
    refine At.d R R R R (jd (x:=(.eq (.map (some g12)))) (ja R)) ?_
    refine At.done (At.vh (At.seq (At.region (At.d R R R R (jc (ja R) 1 R (Sub.self kborder_parcel) ty_76) ?_))))
    refine At.d R R R R (jb (x:=(.eq v1)) (ja R)) ?_
    refine At.freeze2 2 5 97 R R R ?_
    replace hF:=W.vm hF
    refine At.f R (jo R R (jq R en_32 (jf (ja R) (jf (ja R) jg))) [] R (Je.ok hF)) ?_
    rintro _ _ ⟨_,_,⟨r19,v30,hF,rfl,rfl⟩,rfl,rfl⟩
    refine At.d R R R R (jb (x:=(.eq v29)) (ja R)) ?_
    refine At.d R R R R (jb (x:=(.eq (.map (some g12)))) (ja R)) ?_
    refine At.freeze 0 98 R R ?_
    refine At.freeze2 5 16 99 R R R ?_
    replace hF:=W.vm hF
    refine At.f R (jo R R (jq R en_37 (jf (ja R) (jf (ja R) (jf (ja R) jg)))) [1] R (vo.ok hF)) ?_
    rintro _ _ ⟨_,_,⟨r20,hF,rfl,rfl⟩,rfl,rfl⟩
    refine At.done (At.vh ?_)
    refine At.cut (fun rs L=>∃ (x84:(List ((BA×BA)×Bool))),border_Check.c3 x84 Q∧rs=[.box g4 47 kRaw (.map (some g3)),.map g3 (kPair kStr kStr) kBool x84]∧L=mkL [(6,(.eq (.pointer (some ⟨g4,0,none⟩))))]) ?_ ?_
    ·refine At.seq (At.region (At.d R R R R (jb (x:=(.eq (.map (some g12)))) (ja R)) ?_))
     refine At.mapfreeze 0 [18,95,100,102] R ⟨R,R,R,R,trivial⟩ ?_
     refine At.f R (eff_range R R R (ja R) Tryz.underlying90 (((0:Int),(0:Int)),(0:Int))) ?_
     rintro _ _ ⟨g39,rfl,rfl⟩
     refine At.done (At.vh (At.block ?_))
     obtain ⟨n4,hF⟩:=hF
     refine At.w [6,0,8] R [(5,(.tv (kSlice kborder_line) r2)),(6,(.eq (.pointer (some ⟨g4,0,none⟩)))),(7,(.cls 34 0 (tupl [(.eq (.pointer (some ⟨g4,0,none⟩)))]))),(103,(.eq (.pointer (some ⟨g39,0,none⟩))))] ⟨R,R,R,R,trivial⟩ ?_
     refine At.loop (fun m rs L=>∃ (x128:(List ((Int×Int)×Int))) (b21:Bool) (e21:((Int×Int)×Int)) (x129:(List ((BA×BA)×Bool))),W.iter2 (border_Check.l2 r2 (border_Check.c3)) m x128 x129 Q∧rs=[.box g4 47 kRaw (.map (some g3)),.iter g39 (kPair (kInt .i64) (kInt .i64)) (kInt .i64) x128 b21 e21,.map g3 (kPair kStr kStr) kBool x129]∧L=mkL [(5,(.tv (kSlice kborder_line) r2)),(6,(.eq (.pointer (some ⟨g4,0,none⟩)))),(7,(.cls 34 0 (tupl [(.eq (.pointer (some ⟨g4,0,none⟩)))]))),(103,(.eq (.pointer (some ⟨g39,0,none⟩))))]) ?_ ?_ (m:=n4) ⟨r20,false,(((0:Int),(0:Int)),(0:Int)),x47,hF,R,R⟩
     ·rintro rs L ⟨_,_,_,_,hF,_,_⟩;exact hF
     ·rintro m3 _ _ ⟨x128,b21,e21,x129,hF,rfl,rfl⟩
      replace hF:=W.iter2_s hF
      unfold border_Check.l2 at hF
      refine At.seq (At.region (At.f R (eff_next R R R (ja R) 1 R hF) ?_))
      rintro _ _ ⟨b22,e22,l10,hF,rfl,rfl⟩
      refine At.d R R R R (does_extract_tcons (ja R)) ?_
      refine At.done (At.vh (At.seq ?_))
      refine At.cond (ja R) (fun hb59=>?_) (fun hb59=>?_)
      ·replace hF:=W.ite_t hb59 hF
       refine At.skip (At.vh (At.block (At.seq (At.region ?_))))
       obtain ⟨hq77,hF⟩:=hF
       refine At.d R R R R (does_entry (ja R) 1 R hq77) ?_
       refine At.d R R R R (does_extract20 (ja R)) ?_
       refine At.d R R R R (does_extract21 (ja R)) ?_
       refine At.f R (eff_alloc R R R tz_92) ?_
       rintro _ _ ⟨g58,rfl,rfl⟩
       refine At.f R (jx R R (ja R) 0 R (Sub.self (kPair (kInt .i64) (kInt .i64))) ty_92 (ja R)) ?_
       rintro _ _ ⟨rfl,rfl⟩
       refine At.d R R R R (jd (x:=(.tv (kInt .i64) e22.2)) (ja R)) ?_
       refine At.done (At.vh ?_)
       refine At.cut (fun rs L=>∃ (x130:border_line) (g65:Nat) (x131:border_line) (g66:Nat),border_Check.c5 x129 (W.iter2 (border_Check.l2 r2 (border_Check.c3)) m3) e22 l10 x130 x131 Q∧rs=[.box g4 47 kRaw (.map (some g3)),.box g65 82 kborder_line x130,.box g66 82 kborder_line x131,.iter g39 (kPair (kInt .i64) (kInt .i64)) (kInt .i64) l10 b22 e22,.map g3 (kPair kStr kStr) kBool x129]∧L=mkL [(5,(.tv (kSlice kborder_line) r2)),(6,(.eq (.pointer (some ⟨g4,0,none⟩)))),(7,(.cls 34 0 (tupl [(.eq (.pointer (some ⟨g4,0,none⟩)))]))),(20,(.tv (kInt .i64) e22.2)),(21,(.eq (.pointer (some ⟨g65,0,none⟩)))),(22,(.eq (.pointer (some ⟨g66,0,none⟩)))),(103,(.eq (.pointer (some ⟨g39,0,none⟩))))]) ?_ ?_
       ·refine At.draw mixed [0,1,2,3] R [[],[],[],[]] (fun φ w hgd=>?_)
        obtain ⟨hq93,hF⟩:=hF
        obtain ⟨hq94,hF⟩:=hF
        refine AtH.take [0,1,2,3] hgd 0 R R R R (D':=#[Y,N,N,N,N,N,N,N,N,N,N,N,N,N]) (by kernel_rfl) (fun _ _ _ _ h=>h) R (jb (x:=(.tv (kSlice kborder_line) r2)) (ja R)) ?_
        refine AtH.take [0,1,2,3] hgd 1 R R R R (D':=#[Y,Y,N,N,N,N,N,N,N,N,N,N,N,N]) (by kernel_rfl) (fun _ _ _ _ h=>h) R (does_aidx_box (ja R) (ji _ _) ia_92_0) ?_
        refine AtH.take [0,1,2,3] hgd 2 R R R R (D':=#[Y,Y,Y,N,N,N,N,N,N,N,N,N,N,N]) (by kernel_rfl) (fun _ _ _ _ h=>h) R (jc (ja R) 0 R sub_a92_0 ty_3) ?_
        refine AtH.take [0,1,2,3] hgd 3 R R R R (D':=#[Y,Y,Y,Y,N,N,N,N,N,N,N,N,N,N]) (by kernel_rfl) (fun _ _ _ _ h=>h) R (vf zborder_line (ja R) (ja R) Tryz.underlying79 ty_82 hq93) ?_
        refine AtH.take [0,1,2,3] hgd 4 R R R R (D':=#[Y,Y,Y,Y,Y,N,N,N,N,N,N,N,N,N]) (by kernel_rfl) (fun _ _ _ _ h=>h) R (vq (K:=kborder_line) (ja R) ty_82) ?_
        refine AtH.take [0,1,2,3] hgd 5 R R R R (D':=#[Y,Y,Y,Y,Y,Y,N,N,N,N,N,N,N,N]) (by kernel_rfl) (fun _ _ _ _ h=>h) R (jb (x:=(.tv (kSlice kborder_line) r2)) (ja R)) ?_
        refine AtH.take [0,1,2,3] hgd 6 R R R R (D':=#[Y,Y,Y,Y,Y,Y,Y,N,N,N,N,N,N,N]) (by kernel_rfl) (fun _ _ _ _ h=>h) R (does_aidx_box (ja R) (ji _ _) ia_92_1) ?_
        refine AtH.take [0,1,2,3] hgd 7 R R R R (D':=#[Y,Y,Y,Y,Y,Y,Y,Y,N,N,N,N,N,N]) (by kernel_rfl) (fun _ _ _ _ h=>h) R (jc (ja R) 0 R sub_a92_1 ty_3) ?_
        refine AtH.take [0,1,2,3] hgd 8 R R R R (D':=#[Y,Y,Y,Y,Y,Y,Y,Y,Y,N,N,N,N,N]) (by kernel_rfl) (fun _ _ _ _ h=>h) R (vf zborder_line (ja R) (ja R) Tryz.underlying79 ty_82 hq94) ?_
        refine AtH.take [0,1,2,3] hgd 9 R R R R (D':=#[Y,Y,Y,Y,Y,Y,Y,Y,Y,Y,N,N,N,N]) (by kernel_rfl) (fun _ _ _ _ h=>h) R (vq (K:=kborder_line) (ja R) ty_82) ?_
        refine AtH.all2 10 11 (by kernel_rfl) ?_ ?_
        ·refine AtH.f [(0,0),(1,1),(2,2),(3,3)] R R R R R R (eff_alloc R R R tz_82) (D':=#[Y,Y,Y,Y,Y,Y,Y,Y,Y,Y,Y,N,N,N]) (by kernel_rfl) (by kernel_rfl) ?_
         rintro _ _ ⟨g69,rfl,rfl⟩
         refine ⟨_,.inr ⟨R,flat_eq⟩,?_⟩
         refine AtH.all1 11 (by kernel_rfl) ?_
         refine AtH.f [(0,1),(1,2),(2,3),(3,4)] R R R R R R (eff_alloc R R R tz_82) (D':=#[Y,Y,Y,Y,Y,Y,Y,Y,Y,Y,Y,Y,N,N]) (by kernel_rfl) (by kernel_rfl) ?_
         rintro _ _ ⟨g70,rfl,rfl⟩
         refine ⟨_,.inr ⟨R,flat_eq⟩,?_⟩
         refine AtH.all1 12 (by kernel_rfl) ?_
         refine AtH.eff0 [(0,2),(1,3),(2,4),(3,5)] R R R R R (jx R R (ja R) 1 R (Sub.self kborder_line) ty_82 (ja R)) (D':=#[Y,Y,Y,Y,Y,Y,Y,Y,Y,Y,Y,Y,Y,N]) (by kernel_rfl) (by kernel_rfl) ?_
         rintro _ _ ⟨rfl,rfl⟩
         refine AtH.all1 13 (by kernel_rfl) ?_
         refine AtH.eff0 [(0,2),(1,3),(2,4),(3,5)] R R R R R (jx R R (ja R) 0 R (Sub.self kborder_line) ty_82 (ja R)) (D':=#[Y,Y,Y,Y,Y,Y,Y,Y,Y,Y,Y,Y,Y,Y]) (by kernel_rfl) (by kernel_rfl) ?_
         rintro _ _ ⟨rfl,rfl⟩
         refine AtH.done (by kernel_rfl) ?_
         refine At.vh ?_
         refine At.w [3,1,0,4,5] R [(5,(.tv (kSlice kborder_line) r2)),(6,(.eq (.pointer (some ⟨g4,0,none⟩)))),(7,(.cls 34 0 (tupl [(.eq (.pointer (some ⟨g4,0,none⟩)))]))),(20,(.tv (kInt .i64) e22.2)),(21,(.eq (.pointer (some ⟨g69,0,none⟩)))),(22,(.eq (.pointer (some ⟨g70,0,none⟩)))),(103,(.eq (.pointer (some ⟨g39,0,none⟩))))] ⟨R,R,R,R,R,R,R,trivial⟩ (At.r ⟨(rd zborder_line r2 e22.1.1),g69,(rd zborder_line r2 e22.1.2),g70,hF,R,R⟩)
        ·refine AtH.f [(0,0),(1,1),(2,2),(3,3)] R R R R R R (eff_alloc R R R tz_82) (D':=#[Y,Y,Y,Y,Y,Y,Y,Y,Y,Y,N,Y,N,N]) (by kernel_rfl) (by kernel_rfl) ?_
         rintro _ _ ⟨g71,rfl,rfl⟩
         refine ⟨_,.inr ⟨R,flat_eq⟩,?_⟩
         refine AtH.all1 10 (by kernel_rfl) ?_
         refine AtH.f [(0,1),(1,2),(2,3),(3,4)] R R R R R R (eff_alloc R R R tz_82) (D':=#[Y,Y,Y,Y,Y,Y,Y,Y,Y,Y,Y,Y,N,N]) (by kernel_rfl) (by kernel_rfl) ?_
         rintro _ _ ⟨g72,rfl,rfl⟩
         refine ⟨_,.inr ⟨R,flat_eq⟩,?_⟩
         refine AtH.all1 12 (by kernel_rfl) ?_
         refine AtH.eff0 [(0,2),(1,3),(2,4),(3,5)] R R R R R (jx R R (ja R) 0 R (Sub.self kborder_line) ty_82 (ja R)) (D':=#[Y,Y,Y,Y,Y,Y,Y,Y,Y,Y,Y,Y,Y,N]) (by kernel_rfl) (by kernel_rfl) ?_
         rintro _ _ ⟨rfl,rfl⟩
         refine AtH.all1 13 (by kernel_rfl) ?_
         refine AtH.eff0 [(0,2),(1,3),(2,4),(3,5)] R R R R R (jx R R (ja R) 1 R (Sub.self kborder_line) ty_82 (ja R)) (D':=#[Y,Y,Y,Y,Y,Y,Y,Y,Y,Y,Y,Y,Y,Y]) (by kernel_rfl) (by kernel_rfl) ?_
         rintro _ _ ⟨rfl,rfl⟩
         refine AtH.done (by kernel_rfl) ?_
         refine At.vh ?_
         refine At.w [3,0,1,4,5] R [(5,(.tv (kSlice kborder_line) r2)),(6,(.eq (.pointer (some ⟨g4,0,none⟩)))),(7,(.cls 34 0 (tupl [(.eq (.pointer (some ⟨g4,0,none⟩)))]))),(20,(.tv (kInt .i64) e22.2)),(21,(.eq (.pointer (some ⟨g72,0,none⟩)))),(22,(.eq (.pointer (some ⟨g71,0,none⟩)))),(103,(.eq (.pointer (some ⟨g39,0,none⟩))))] ⟨R,R,R,R,R,R,R,trivial⟩ (At.r ⟨(rd zborder_line r2 e22.1.1),g72,(rd zborder_line r2 e22.1.2),g71,hF,R,R⟩)
       ·rintro _ _ ⟨x130,g65,x131,g66,hF,rfl,rfl⟩
        unfold border_Check.c5 at hF
        refine At.seq ?_
        refine At.freezebox 2 R ?_
        refine At.ptrslot 2 22 R R (Sub.self kborder_line) ?_
        refine At.draw mixed [0,1,3,4] R [[],[],[],[]] (fun φ w hgd=>?_)
        replace hF:=W.vm hF
        refine AtH.take [0,1,2,3] hgd 0 R R R R (D':=#[Y,N,N,N,N,N,N,N,N,N,N,N,N,N,N]) (by kernel_rfl) (fun _ _ _ _ h=>h) R (Jd (K:=kborder_line) (ja R) fa_82_0 sub_border_line_0) ?_
        refine AtH.take [0,1,2,3] hgd 1 R R R R (D':=#[Y,Y,N,N,N,N,N,N,N,N,N,N,N,N,N]) (by kernel_rfl) (fun _ _ _ _ h=>h) R (does_slice_ptr (ja R) Tryz.underlying50 ty_9.size (arrl_cons (arrl_one _ _)) R R) ?_
        refine AtH.take [0,1,2,3] hgd 2 R R R R (D':=#[Y,Y,Y,N,N,N,N,N,N,N,N,N,N,N,N]) (by kernel_rfl) (fun _ _ _ _ h=>h) R (je (ja R) fa_82_0) ?_
        refine AtH.take [0,1,2,3] hgd 3 R R R R (D':=#[Y,Y,Y,Y,N,N,N,N,N,N,N,N,N,N,N]) (by kernel_rfl) (fun _ _ _ _ h=>h) R (does_aidx_box (ja R) (ji _ _) ia_50_0) ?_
        refine AtH.take [0,1,2,3] hgd 4 R R R R (D':=#[Y,Y,Y,Y,Y,N,N,N,N,N,N,N,N,N,N]) (by kernel_rfl) (fun _ _ _ _ h=>h) R (jc (ja R) 1 R sub_border_line_0_0 ty_9) ?_
        refine AtH.all1 5 (by kernel_rfl) ?_
        refine AtH.f [(0,0),(1,1),(2,3),(3,4)] R R R R R R (jn R R jp (jq R en_36 (jf (ja R) (jf (ja R) jg))) (Jh.ok hF) (by rintro _ _ ⟨r,_,rfl,_⟩;exact vl)) (D':=#[Y,Y,Y,Y,Y,Y,N,N,N,N,N,N,N,N,N]) (by kernel_rfl) (by kernel_rfl) ?_
        rintro _ _ ⟨_,_,⟨r51,hF,rfl,rfl⟩,rfl,rfl⟩
        refine ⟨_,.inr ⟨R,vl⟩,?_⟩
        replace hF:=W.vm hF
        refine AtH.take [0,1,2,3] hgd 6 R R R R (D':=#[Y,Y,Y,Y,Y,Y,Y,N,N,N,N,N,N,N,N]) (by kernel_rfl) (fun _ _ _ _ h=>h) R (jb (x:=(.tv kBool r51)) (ja R)) ?_
        refine AtH.vk [0,1,2,3] hgd 7 R R R (jv R) R R (D':=#[Y,Y,Y,Y,Y,Y,Y,Y,N,N,N,N,N,N,N]) (by kernel_rfl) (fun _ _ _ _ h=>h) R (fun hg70=>(Jd (K:=kborder_line) (ja R) fa_82_0 sub_border_line_0)) ?_
        refine AtH.vk [0,1,2,3] hgd 8 R R R (jv R) R R (D':=#[Y,Y,Y,Y,Y,Y,Y,Y,Y,N,N,N,N,N,N]) (by kernel_rfl) (fun _ _ _ _ h=>h) R (fun hg71=>(does_slice_ptr (jh R hg71) Tryz.underlying50 ty_9.size (arrl_cons (arrl_one _ _)) R R)) ?_
        refine AtH.vk [0,1,2,3] hgd 9 R R R (jv R) R R (D':=#[Y,Y,Y,Y,Y,Y,Y,Y,Y,Y,N,N,N,N,N]) (by kernel_rfl) (fun _ _ _ _ h=>h) R (fun hg72=>(je (ja R) fa_82_0)) ?_
        refine AtH.vk [0,1,2,3] hgd 10 R R R (jv R) R R (D':=#[Y,Y,Y,Y,Y,Y,Y,Y,Y,Y,Y,N,N,N,N]) (by kernel_rfl) (fun _ _ _ _ h=>h) R (fun hg73=>(does_aidx_box (jh R hg73) (ji _ _) ia_50_1)) ?_
        refine AtH.vk [0,1,2,3] hgd 11 R R R (jv R) R R (D':=#[Y,Y,Y,Y,Y,Y,Y,Y,Y,Y,Y,Y,N,N,N]) (by kernel_rfl) (fun _ _ _ _ h=>h) R (fun hg74=>(jc (jh R hg74) 1 R sub_border_line_0_1 ty_9)) ?_
        refine AtH.all1 12 (by kernel_rfl) ?_
        refine AtH.effG [(0,0),(1,1),(2,3),(3,4)] R R R R R R R (jv R) (D':=#[Y,Y,Y,Y,Y,Y,Y,Y,Y,Y,Y,Y,Y,N,N]) (by kernel_rfl) (by kernel_rfl) hF (fun r=>.tv kBool r) (fun _=>vl) (fun hg75 hF=>eff_of (jn R R jp (jq R en_36 (jf (jh R hg75) (jf (jh R hg75) jg))) (Jh.ok hF) (by rintro _ _ ⟨r,_,rfl,_⟩;exact vl)) (by rintro _ _ ⟨_,_,⟨r,hF,rfl,rfl⟩,rfl,rfl⟩;exact ⟨r,hF,R,R⟩)) (fun r52 hF=>?_)
        refine AtH.take [0,1,2,3] hgd 13 R R R R (D':=#[Y,Y,Y,Y,Y,Y,Y,Y,Y,Y,Y,Y,Y,Y,N]) (by kernel_rfl) (fun _ _ _ _ h=>h) R (jm (ja R) (jl _) (ja R) pick_or) ?_
        refine AtH.take [0,1,2,3] hgd 14 R R R R (D':=#[Y,Y,Y,Y,Y,Y,Y,Y,Y,Y,Y,Y,Y,Y,Y]) (by kernel_rfl) (fun _ _ _ _ h=>h) R (jd (x:=(.tv kBool (r51||r52))) (ja R)) ?_
        refine AtH.done (by kernel_rfl) ?_
        refine At.vh (At.seq (At.seq (At.region (At.d R R R R (je (ja R) fa_82_0) ?_))))
        refine At.d R R R R (jc (ja R) 1 R sub_border_line_0 ty_50) ?_
        refine At.d R R R R (Jd (K:=kborder_line) (ja R) fa_82_0 sub_border_line_0) ?_
        refine At.d R R R R (vq (K:=(kPair kStr kStr)) (ja R) ty_50) ?_
        refine At.d R R R R (jk (ja R) (ja R) (bin_eq eqty_50)) ?_
        refine At.d R R R R (jb (x:=(.tv kBool (eq_a50 x130.nodes x131.nodes))) (ja R)) ?_
        refine At.vj R R R R (jv R) R (fun hg76=>(jb (x:=(.tv (kInt .i64) e22.2)) (ja R))) ?_
        refine At.vj R R R R (jv R) R (fun hg77=>(jk (jh R hg77) (ji _ _) bin_eql)) ?_
        refine At.vj R R R R (jv R) R (fun hg78=>(jb (x:=(.tv kBool (e22.2==(1:Int)))) (jh R hg78))) ?_
        refine At.vj R R R R (jt R) R (fun hg79=>(jb (x:=(.tv kBool (r51||r52))) (ja R))) ?_
        refine At.vj R R R R (jv R) R (fun hg80=>(jm (jh R hg80) (ja R) (jl _) (pick_andG (and_of hg80)))) ?_
        refine At.d R R R R (jm (ja R) (jl _) (ja R) pick_or) ?_
        refine At.done (At.vh ?_)
        refine At.cond (ja R) (fun hb60=>?_) (fun hb60=>?_)
        ·replace hF:=W.ite_t hb60 hF
         refine At.exit ?_
         refine At.x ?_
         refine At.h ?_
         refine At.vh ?_
         refine At.w [0,3,4] R [(5,(.tv (kSlice kborder_line) r2)),(6,(.eq (.pointer (some ⟨g4,0,none⟩)))),(7,(.cls 34 0 (tupl [(.eq (.pointer (some ⟨g4,0,none⟩)))]))),(103,(.eq (.pointer (some ⟨g39,0,none⟩))))] ⟨R,R,R,R,trivial⟩ (At.r ⟨l10,b22,e22,x129,hF,R,R⟩)
        ·replace hF:=W.ite_f hb60 hF
         refine At.skip (At.vh (At.seq (At.region (At.d R R R R (je (ja R) fa_82_1) ?_))))
         refine At.d R R R R (jc (ja R) 1 R sub_border_line_1 ty_41) ?_
         refine At.d R R R R (js (ja R) Tryz.underlying41) ?_
         refine At.d R R R R (jb (x:=(.tv (kInt .i64) (0:Int))) (ji _ _)) ?_
         refine At.done (At.vh (At.block ?_))
         obtain ⟨n3,hF⟩:=hF
         refine At.w [0,3,4] R [(5,(.tv (kSlice kborder_line) r2)),(6,(.eq (.pointer (some ⟨g4,0,none⟩)))),(7,(.cls 34 0 (tupl [(.eq (.pointer (some ⟨g4,0,none⟩)))]))),(22,(.ptr kborder_line x131)),(103,(.eq (.pointer (some ⟨g39,0,none⟩)))),(146,(.tv (kSlice kStr) x130.owners)),(147,(.tv (kInt .i64) (x130.owners.length:Int))),(148,(.tv (kInt .i64) (0:Int)))] ⟨R,R,R,R,R,R,R,R,trivial⟩ ?_
         refine At.loop (fun m rs L=>∃ (x142:(List ((BA×BA)×Bool))) (t69:Int),W.iter2 (border_Check.l3 (W.iter2 (border_Check.l2 r2 (border_Check.c3)) m3) l10 x130 x131) m x142 t69 Q∧rs=[.box g4 47 kRaw (.map (some g3)),.iter g39 (kPair (kInt .i64) (kInt .i64)) (kInt .i64) l10 b22 e22,.map g3 (kPair kStr kStr) kBool x142]∧L=mkL [(5,(.tv (kSlice kborder_line) r2)),(6,(.eq (.pointer (some ⟨g4,0,none⟩)))),(7,(.cls 34 0 (tupl [(.eq (.pointer (some ⟨g4,0,none⟩)))]))),(22,(.ptr kborder_line x131)),(103,(.eq (.pointer (some ⟨g39,0,none⟩)))),(146,(.tv (kSlice kStr) x130.owners)),(147,(.tv (kInt .i64) (x130.owners.length:Int))),(148,(.tv (kInt .i64) t69))]) ?_ ?_ (m:=n3) ⟨x129,(0:Int),hF,R,R⟩
         ·rintro rs L ⟨_,_,hF,_,_⟩;exact hF
         ·rintro m4 _ _ ⟨x142,t69,hF,rfl,rfl⟩
          replace hF:=W.iter2_s hF
          unfold border_Check.l3 at hF
          refine At.seq (At.region (At.d R R R R (jk (ja R) (ja R) vd) ?_))
          refine At.done (At.vh (At.seq ?_))
          refine At.cond (ja R) (fun hb67=>?_) (fun hb67=>?_)
          ·replace hF:=W.ite_t hb67 hF
           refine At.skip (At.vh ?_)
           refine At.cut (fun rs L=>∃ (x146:(List ((BA×BA)×Bool))),border_Check.c6 t69 (W.iter2 (border_Check.l3 (W.iter2 (border_Check.l2 r2 (border_Check.c3)) m3) l10 x130 x131) m4) x146 Q∧rs=[.box g4 47 kRaw (.map (some g3)),.iter g39 (kPair (kInt .i64) (kInt .i64)) (kInt .i64) l10 b22 e22,.map g3 (kPair kStr kStr) kBool x146]∧L=mkL [(5,(.tv (kSlice kborder_line) r2)),(6,(.eq (.pointer (some ⟨g4,0,none⟩)))),(7,(.cls 34 0 (tupl [(.eq (.pointer (some ⟨g4,0,none⟩)))]))),(22,(.ptr kborder_line x131)),(103,(.eq (.pointer (some ⟨g39,0,none⟩)))),(146,(.tv (kSlice kStr) x130.owners)),(147,(.tv (kInt .i64) (x130.owners.length:Int))),(148,(.tv (kInt .i64) t69))]) ?_ ?_
           ·refine At.block (At.seq (At.region ?_))
            obtain ⟨hq89,hF⟩:=hF
            refine At.d R R R R (vf (⟨#[]⟩:BA) (ja R) (ja R) Tryz.underlying41 ty_9 hq89) ?_
            refine At.d R R R R (vq (K:=kStr) (ja R) ty_9) ?_
            refine At.d R R R R (jd (x:=(.tv kStr (rd (⟨#[]⟩:BA) x130.owners t69))) (ja R)) ?_
            refine At.done (At.vh (At.seq (At.region (At.d R R R R (Jd (K:=kborder_line) (ja R) fa_82_1 sub_border_line_1) ?_))))
            refine At.d R R R R (vq (K:=(kSlice kStr)) (ja R) ty_41) ?_
            refine At.d R R R R (js (ja R) Tryz.underlying41) ?_
            refine At.d R R R R (jb (x:=(.tv (kInt .i64) (0:Int))) (ji _ _)) ?_
            refine At.done (At.vh (At.block ?_))
            obtain ⟨n2,hF⟩:=hF
            refine At.w [0,1,2] R [(5,(.tv (kSlice kborder_line) r2)),(6,(.eq (.pointer (some ⟨g4,0,none⟩)))),(7,(.cls 34 0 (tupl [(.eq (.pointer (some ⟨g4,0,none⟩)))]))),(22,(.ptr kborder_line x131)),(25,(.tv kStr (rd (⟨#[]⟩:BA) x130.owners t69))),(103,(.eq (.pointer (some ⟨g39,0,none⟩)))),(146,(.tv (kSlice kStr) x130.owners)),(147,(.tv (kInt .i64) (x130.owners.length:Int))),(148,(.tv (kInt .i64) t69)),(153,(.tv (kSlice kStr) x131.owners)),(154,(.tv (kInt .i64) (x131.owners.length:Int))),(155,(.tv (kInt .i64) (0:Int)))] ⟨R,R,R,R,R,R,R,R,R,R,R,R,trivial⟩ ?_
            refine At.loop (fun m rs L=>∃ (x149:(List ((BA×BA)×Bool))) (t75:Int),W.iter2 (border_Check.l4 x130 x131 t69 (border_Check.c6 t69 (W.iter2 (border_Check.l3 (W.iter2 (border_Check.l2 r2 (border_Check.c3)) m3) l10 x130 x131) m4))) m x149 t75 Q∧rs=[.box g4 47 kRaw (.map (some g3)),.iter g39 (kPair (kInt .i64) (kInt .i64)) (kInt .i64) l10 b22 e22,.map g3 (kPair kStr kStr) kBool x149]∧L=mkL [(5,(.tv (kSlice kborder_line) r2)),(6,(.eq (.pointer (some ⟨g4,0,none⟩)))),(7,(.cls 34 0 (tupl [(.eq (.pointer (some ⟨g4,0,none⟩)))]))),(22,(.ptr kborder_line x131)),(25,(.tv kStr (rd (⟨#[]⟩:BA) x130.owners t69))),(103,(.eq (.pointer (some ⟨g39,0,none⟩)))),(146,(.tv (kSlice kStr) x130.owners)),(147,(.tv (kInt .i64) (x130.owners.length:Int))),(148,(.tv (kInt .i64) t69)),(153,(.tv (kSlice kStr) x131.owners)),(154,(.tv (kInt .i64) (x131.owners.length:Int))),(155,(.tv (kInt .i64) t75))]) ?_ ?_ (m:=n2) ⟨x142,(0:Int),hF,R,R⟩
            ·rintro rs L ⟨_,_,hF,_,_⟩;exact hF
            ·rintro m5 _ _ ⟨x149,t75,hF,rfl,rfl⟩
             replace hF:=W.iter2_s hF
             unfold border_Check.l4 at hF
             refine At.seq (At.region (At.d R R R R (jk (ja R) (ja R) vd) ?_))
             refine At.done (At.vh (At.seq ?_))
             refine At.cond (ja R) (fun hb72=>?_) (fun hb72=>?_)
             ·replace hF:=W.ite_t hb72 hF
              refine At.skip (At.vh (At.seq (At.block (At.seq (At.region ?_)))))
              obtain ⟨hq92,hF⟩:=hF
              refine At.d R R R R (vf (⟨#[]⟩:BA) (ja R) (ja R) Tryz.underlying41 ty_9 hq92) ?_
              refine At.d R R R R (vq (K:=kStr) (ja R) ty_9) ?_
              refine At.d R R R R (jd (x:=(.tv kStr (rd (⟨#[]⟩:BA) x131.owners t75))) (ja R)) ?_
              refine At.done (At.vh (At.region (At.d R R R R (jb (x:=(.cls 34 0 (tupl [(.eq (.pointer (some ⟨g4,0,none⟩)))]))) (ja R)) ?_)))
              refine At.d R R R R (jb (x:=(.tv kStr (rd (⟨#[]⟩:BA) x130.owners t69))) (ja R)) ?_
              refine At.d R R R R (jb (x:=(.tv kStr (rd (⟨#[]⟩:BA) x131.owners t75))) (ja R)) ?_
              replace hF:=W.vm hF
              refine At.f R (jo R R (ent_val0 R (ja R) en_34 (jf (ja R) (jf (ja R) jg))) [0,2] R (border_Check_1__b.ok hF)) ?_
              rintro _ _ ⟨_,_,⟨r61,hF,rfl,rfl⟩,rfl,rfl⟩
              refine At.done ?_
              refine At.n ?_
              refine At.vh (At.region (At.d R R R R (jk (ja R) (ji _ _) vc) ?_))
              refine At.d R R R R (jb (x:=(.tv (kInt .i64) (w64 (t75+(1:Int))))) (ja R)) ?_
              refine At.done (At.vh ?_)
              refine At.w [0,3,1] R [(5,(.tv (kSlice kborder_line) r2)),(6,(.eq (.pointer (some ⟨g4,0,none⟩)))),(7,(.cls 34 0 (tupl [(.eq (.pointer (some ⟨g4,0,none⟩)))]))),(22,(.ptr kborder_line x131)),(25,(.tv kStr (rd (⟨#[]⟩:BA) x130.owners t69))),(103,(.eq (.pointer (some ⟨g39,0,none⟩)))),(146,(.tv (kSlice kStr) x130.owners)),(147,(.tv (kInt .i64) (x130.owners.length:Int))),(148,(.tv (kInt .i64) t69)),(153,(.tv (kSlice kStr) x131.owners)),(154,(.tv (kInt .i64) (x131.owners.length:Int))),(155,(.tv (kInt .i64) (w64 (t75+(1:Int)))))] ⟨R,R,R,R,R,R,R,R,R,R,R,R,trivial⟩ (At.r ⟨r61,(w64 (t75+(1:Int))),hF,R,R⟩)
             ·replace hF:=W.ite_f hb72 hF
              refine At.exit ?_
              refine At.x (At.x ?_)
              refine At.h ?_
              refine At.n ?_
              refine At.vh ?_
              refine At.w [0,1,2] R [(5,(.tv (kSlice kborder_line) r2)),(6,(.eq (.pointer (some ⟨g4,0,none⟩)))),(7,(.cls 34 0 (tupl [(.eq (.pointer (some ⟨g4,0,none⟩)))]))),(22,(.ptr kborder_line x131)),(103,(.eq (.pointer (some ⟨g39,0,none⟩)))),(146,(.tv (kSlice kStr) x130.owners)),(147,(.tv (kInt .i64) (x130.owners.length:Int))),(148,(.tv (kInt .i64) t69))] ⟨R,R,R,R,R,R,R,R,trivial⟩ (At.r ⟨x149,hF,R,R⟩)
           ·rintro _ _ ⟨x146,hF,rfl,rfl⟩
            unfold border_Check.c6 at hF
            refine At.region (At.d R R R R (jk (ja R) (ji _ _) vc) ?_)
            refine At.d R R R R (jb (x:=(.tv (kInt .i64) (w64 (t69+(1:Int))))) (ja R)) ?_
            refine At.done (At.vh ?_)
            refine At.w [0,1,2] R [(5,(.tv (kSlice kborder_line) r2)),(6,(.eq (.pointer (some ⟨g4,0,none⟩)))),(7,(.cls 34 0 (tupl [(.eq (.pointer (some ⟨g4,0,none⟩)))]))),(22,(.ptr kborder_line x131)),(103,(.eq (.pointer (some ⟨g39,0,none⟩)))),(146,(.tv (kSlice kStr) x130.owners)),(147,(.tv (kInt .i64) (x130.owners.length:Int))),(148,(.tv (kInt .i64) (w64 (t69+(1:Int)))))] ⟨R,R,R,R,R,R,R,R,trivial⟩ (At.r ⟨x146,(w64 (t69+(1:Int))),hF,R,R⟩)
          ·replace hF:=W.ite_f hb67 hF
           refine At.exit ?_
           refine At.x (At.x ?_)
           refine At.h ?_
           refine At.n ?_
           refine At.vh ?_
           refine At.w [0,1,2] R [(5,(.tv (kSlice kborder_line) r2)),(6,(.eq (.pointer (some ⟨g4,0,none⟩)))),(7,(.cls 34 0 (tupl [(.eq (.pointer (some ⟨g4,0,none⟩)))]))),(103,(.eq (.pointer (some ⟨g39,0,none⟩))))] ⟨R,R,R,R,trivial⟩ (At.r ⟨l10,b22,e22,x142,hF,R,R⟩)
      ·replace hF:=W.ite_f hb59 hF
       refine At.exit ?_
       refine At.x (At.x ?_)
       refine At.h ?_
       refine At.vh ?_
       refine At.w [0,2] R [(6,(.eq (.pointer (some ⟨g4,0,none⟩))))] ⟨R,trivial⟩ (At.r ⟨x129,hF,R,R⟩)
    ·rintro _ _ ⟨x84,hF,rfl,rfl⟩
     unfold border_Check.c3 at hF
     refine At.seq (At.region (At.d R R R R (jd (x:=(.eq (.slice none 0 0))) (opd_eq _)) ?_))
     refine At.done (At.vh ?_)
     refine At.cut (fun rs L=>∃ (x91:(List Violation)) (v40:Value),border_Check.c4 x91 Q∧rs=[.row v40 43 kViolation x91]∧L=mkL [(28,(.eq v40))]) ?_ ?_
     ·refine At.seq (At.region (At.d R R R R (does_load_raw (ja R) 0 R (Sub.self kRaw) tyr_47 R) ?_))
      refine At.mapfreeze 1 [165] R ⟨R,trivial⟩ ?_
      refine At.boxtold 0 (K':=(kMp (kPair kStr kStr) kBool)) (y:=x84) R (Turn.fmap (j:=1) R) ?_
      refine At.f R (eff_range R R R (ja R) Tryz.underlying47 (((⟨#[]⟩:BA),(⟨#[]⟩:BA)),false)) ?_
      rintro _ _ ⟨g35,rfl,rfl⟩
      refine At.done (At.vh (At.block ?_))
      refine At.nilrow 43 kViolation ?_
      obtain ⟨n1,hF⟩:=hF
      refine At.w [0,1] R [(28,(.eq (.slice none 0 0))),(166,(.eq (.pointer (some ⟨g35,0,none⟩))))] ⟨R,R,trivial⟩ ?_
      refine At.loop (fun m rs L=>∃ (x96:(List Violation)) (v49:Value) (x97:(List ((BA×BA)×Bool))) (b15:Bool) (e15:((BA×BA)×Bool)),W.iter2 (border_Check.l1 (border_Check.c4)) m x96 x97 Q∧rs=[.row v49 43 kViolation x96,.iter g35 (kPair kStr kStr) kBool x97 b15 e15]∧L=mkL [(28,(.eq v49)),(166,(.eq (.pointer (some ⟨g35,0,none⟩))))]) ?_ ?_ (m:=n1) ⟨([]:List Violation),(.slice none 0 0),x84,false,(((⟨#[]⟩:BA),(⟨#[]⟩:BA)),false),hF,R,R⟩
      ·rintro rs L ⟨_,_,_,_,_,hF,_,_⟩;exact hF
      ·rintro m2 _ _ ⟨x96,v49,x97,b15,e15,hF,rfl,rfl⟩
       replace hF:=W.iter2_s hF
       unfold border_Check.l1 at hF
       refine At.seq (At.region (At.f R (eff_next R R R (ja R) 1 R hF) ?_))
       rintro _ _ ⟨b16,e16,l7,hF,rfl,rfl⟩
       refine At.d R R R R (does_extract_tcons (ja R)) ?_
       refine At.done (At.vh (At.seq ?_))
       refine At.cond (ja R) (fun hb42=>?_) (fun hb42=>?_)
       ·replace hF:=W.ite_t hb42 hF
        refine At.skip (At.vh (At.block (At.seq (At.region ?_))))
        obtain ⟨hq57,hF⟩:=hF
        refine At.d R R R R (does_entry (ja R) 1 R hq57) ?_
        refine At.d R R R R (does_extract20 (ja R)) ?_
        refine At.f R (eff_alloc R R R tz_50) ?_
        rintro _ _ ⟨g38,rfl,rfl⟩
        refine At.f R (jx R R (ja R) 0 R (Sub.self (kPair kStr kStr)) ty_50 (ja R)) ?_
        rintro _ _ ⟨rfl,rfl⟩
        refine At.done (At.vh ?_)
        refine At.boxrow 0 R (arrl_cons (arrl_one _ _)) R R ?_
        refine At.region (At.d R R R R (jb (x:=(.eq v49)) (ja R)) ?_)
        refine At.d R R R R (does_slice_arr (ja R) Tryz.underlying50 ty_9.size) ?_
        replace hF:=W.vm hF
        refine At.f R (jo R R (jq R en_38 (jf (ja R) jg)) [0] R (vn.ok hF)) ?_
        rintro _ _ ⟨_,_,⟨r38,v50,hF,rfl,rfl⟩,rfl,rfl⟩
        refine At.freeze 0 173 R R ?_
        refine At.d R R R R (jz (jr (ji _ _) (jr (ja R) parts_nil)) zr_43 bd_43 R (fills_cons R sub_Violation_1 (fills_cons R sub_Violation_2 fills_nil))) ?_
        refine At.f R (jy R R R (os:=[.tmp 174]) R sl_33 (xs:=([(⟨(⟨#[]⟩:BA),(2:Int),r38⟩:Violation)]:List Violation)) (jf (ja R) jg) R R) ?_
        rintro _ _ ⟨v51,rfl,rfl⟩
        obtain ⟨hq58,hF⟩:=hF
        refine At.f R (eff_append_row R R R 3 0 R R (ja R) (ja R) sl_33 hq58) ?_
        rintro _ _ ⟨v52,rfl,rfl⟩
        refine At.d R R R R (jd (x:=(.eq v52)) (ja R)) ?_
        refine At.done ?_
        refine At.n ?_
        refine At.vh ?_
        refine At.w [3,4] R [(28,(.eq v52)),(166,(.eq (.pointer (some ⟨g35,0,none⟩))))] ⟨R,R,trivial⟩ (At.r ⟨(x96++([(⟨(⟨#[]⟩:BA),(2:Int),r38⟩:Violation)]:List Violation)),v52,l7,b16,e16,hF,R,R⟩)
       ·replace hF:=W.ite_f hb42 hF
        refine At.exit ?_
        refine At.x (At.x ?_)
        refine At.h ?_
        refine At.vh ?_
        refine At.w [0] R [(28,(.eq v49))] ⟨R,trivial⟩ (At.r ⟨x96,v49,hF,R,R⟩)
     ·rintro _ _ ⟨x91,v40,hF,rfl,rfl⟩
      unfold border_Check.c4 at hF
      refine At.seq (At.region (At.d R R R R (jb (x:=(.eq v40)) (ja R)) ?_))
      replace hF:=W.vm hF
      refine At.f R (jo R R (jq R en_39 (jf (ja R) (jf (opd_fn 40) jg))) [0] R (slices_SortFunc_api_Violation_api_Violation__o_border_Check_2.ok hF)) ?_
      rintro _ _ ⟨_,_,⟨r35,hF,rfl,rfl⟩,rfl,rfl⟩
      refine At.done (At.vh (At.seq (At.region (At.d R R R R (jb (x:=(.eq v40)) (ja R)) ?_))))
      refine At.d R R R R (jd (x:=(.eq v40)) (ja R)) ?_
      refine At.done (At.vh (At.ret ?_))
      exact At.j rfl (rv_tmp rfl) [0] rfl ⟨r35,_,hF,rfl,rfl⟩
def border_Segments.c1 (r1:(border_parcel×Bool)) (r2:(List border_line)) (x4:(List (List BA))):W ((List Segment)×(List (List BA))):=W.bind (Je.F r1.1 r2) (fun r3=>W.ret (r3,x4))
def border_Segments.l1 (r2:(List border_line)) (K1:(List (List BA))→W ((List Segment)×(List (List BA)))) (A1:(List (List BA))→Int→W ((List Segment)×(List (List BA)))) (x7:(List (List BA))) (t6:Int):W ((List Segment)×(List (List BA))):=W.ite (decide (t6<(r2.length:Int))) (W.req (0≤t6∧t6<(r2.length:Int)) (W.req (0≤t6∧t6<(r2.length:Int)) (W.req ((x7.length+([(rd zborder_line r2 t6).owners]:List (List BA)).length)*24≤140737488355328∧x7.length+([(rd zborder_line r2 t6).owners]:List (List BA)).length≤140737488355328) (A1 (x7++([(rd zborder_line r2 t6).owners]:List (List BA))) (w64 (t6+(1:Int))))))) (K1 x7)
def border_Segments.F (m1:Map):W ((List Segment)×(List (List BA))):=W.bind (border_of.F m1) (fun r1=>W.ite (!r1.2) (W.ret (([]:List Segment),([]:List (List BA)))) (W.bind (vw.F r1.1) (fun r2=>W.ex fun n=>W.iter2 (border_Segments.l1 r2 (border_Segments.c1 r1 r2)) n ([]:List (List BA)) (0:Int))))
theorem border_Segments.ok {m1:Map} {Q:((List Segment)×(List (List BA)))→Prop} (hF:border_Segments.F m1 Q):Con Tryz.prog 12 [.tv kMap m1] [] (fun ta rs'=>∃ (r:((List Segment)×(List (List BA)))) (u0:Value) (u1:Value),Q r∧ta=.tup2 (.eq u0) (.eq u1)∧rs'=[.row u0 39 kSegment r.1,.row u1 41 (kSlice kStr) r.2]):=by
 refine Con.i Tryz.func12 Tryz.ntmps12 R R (fun C=>?_)
 unfold border_Segments.F at hF
 refine At.seq (At.region (At.f R (jw R R R (ja R)) ?_))
 rintro _ _ ⟨g1,rfl,rfl⟩
 refine At.d R R R R (jd (x:=(.eq (.slice none 0 0))) (opd_eq _)) ?_
 refine At.d R R R R (jd (x:=(.eq (.slice none 0 0))) (opd_eq _)) ?_
 refine At.done (At.vh (At.seq (At.region (At.d R R R R (jc (ja R) 0 R (Sub.self kMap) ty_24) ?_))))
 replace hF:=W.vm hF
 refine At.f R (jo R R (jq R en_30 (jf (ja R) jg)) [] R (border_of.ok hF)) ?_
 rintro _ _ ⟨_,_,⟨r1,hF,rfl,rfl⟩,rfl,rfl⟩
 refine At.d R R R R (jb (x:=(.tup2 (.tv kborder_parcel r1.1) (.tv kBool r1.2))) (ja R)) ?_
 refine At.d R R R R (does_extract20 (ja R)) ?_
 refine At.d R R R R (does_extract21 (ja R)) ?_
 refine At.f R (eff_alloc R R R tz_76) ?_
 rintro _ _ ⟨g2,rfl,rfl⟩
 refine At.f R (jx R R (ja R) 0 R (Sub.self kborder_parcel) ty_76 (ja R)) ?_
 rintro _ _ ⟨rfl,rfl⟩
 refine At.d R R R R (jd (x:=(.tv kBool r1.2)) (ja R)) ?_
 refine At.done (At.vh (At.seq (At.seq (At.region (At.d R R R R (jb (x:=(.tv kBool r1.2)) (ja R)) ?_)))))
 refine At.d R R R R (does_not (ja R)) ?_
 refine At.done (At.vh ?_)
 refine At.cond (ja R) (fun hb1=>?_) (fun hb1=>?_)
 ·replace hF:=W.ite_t hb1 hF
  refine At.seq (At.region (At.d R R R R (jd (x:=(.eq (.slice none 0 0))) (opd_eq _)) ?_))
  refine At.d R R R R (jd (x:=(.eq (.slice none 0 0))) (opd_eq _)) ?_
  refine At.done (At.vh (At.ret (At.vi ?_)))
  refine At.nilrow 39 kSegment ?_
  refine At.nilrow 41 (kSlice kStr) ?_
  exact At.ret_2 rfl (rv_tmp rfl) (rv_tmp rfl) [1,0] rfl ⟨(([]:List Segment),([]:List (List BA))),_,_,hF,rfl,rfl⟩
 ·replace hF:=W.ite_f hb1 hF
  refine At.skip (At.vh (At.seq (At.region (At.d R R R R (jc (ja R) 0 R (Sub.self kborder_parcel) ty_76) ?_))))
  replace hF:=W.vm hF
  refine At.f R (jo R R (jq R en_31 (jf (ja R) jg)) [] R (vw.ok hF)) ?_
  rintro _ _ ⟨_,_,⟨r2,v1,hF,rfl,rfl⟩,rfl,rfl⟩
  refine At.d R R R R (jd (x:=(.eq v1)) (ja R)) ?_
  refine At.done (At.vh (At.seq (At.region (At.d R R R R (jd (x:=(.eq (.slice none 0 0))) (opd_eq _)) ?_))))
  refine At.done (At.vh ?_)
  refine At.cut (fun rs L=>∃ (x4:(List (List BA))) (v9:Value),border_Segments.c1 r1 r2 x4 Q∧rs=[.box g2 76 kborder_parcel r1.1,.row v1 82 kborder_line r2,.row v9 41 (kSlice kStr) x4]∧L=mkL [(4,(.eq (.pointer (some ⟨g2,0,none⟩)))),(6,(.eq v1)),(7,(.eq v9))]) ?_ ?_
  ·refine At.seq (At.region (At.d R R R R (jb (x:=(.eq v1)) (ja R)) ?_))
   refine At.d R R R R (does_len_row (ja R) 0 R Tryz.underlying79) ?_
   refine At.d R R R R (jb (x:=(.tv (kInt .i64) (0:Int))) (ji _ _)) ?_
   refine At.done (At.vh (At.block ?_))
   refine At.nilrow 41 (kSlice kStr) ?_
   obtain ⟨n1,hF⟩:=hF
   refine At.w [2,1,0] R [(4,(.eq (.pointer (some ⟨g2,0,none⟩)))),(6,(.eq v1)),(7,(.eq (.slice none 0 0))),(19,(.eq v1)),(20,(.tv (kInt .i64) (r2.length:Int))),(21,(.tv (kInt .i64) (0:Int)))] ⟨R,R,R,R,R,R,trivial⟩ ?_
   refine At.loop (fun m rs L=>∃ (x7:(List (List BA))) (v17:Value) (t6:Int),W.iter2 (border_Segments.l1 r2 (border_Segments.c1 r1 r2)) m x7 t6 Q∧rs=[.box g2 76 kborder_parcel r1.1,.row v1 82 kborder_line r2,.row v17 41 (kSlice kStr) x7]∧L=mkL [(4,(.eq (.pointer (some ⟨g2,0,none⟩)))),(6,(.eq v1)),(7,(.eq v17)),(19,(.eq v1)),(20,(.tv (kInt .i64) (r2.length:Int))),(21,(.tv (kInt .i64) t6))]) ?_ ?_ (m:=n1) ⟨([]:List (List BA)),(.slice none 0 0),(0:Int),hF,R,R⟩
   ·rintro rs L ⟨_,_,_,hF,_,_⟩;exact hF
   ·rintro m2 _ _ ⟨x7,v17,t6,hF,rfl,rfl⟩
    replace hF:=W.iter2_s hF
    unfold border_Segments.l1 at hF
    refine At.seq (At.region (At.d R R R R (jk (ja R) (ja R) vd) ?_))
    refine At.done (At.vh (At.seq ?_))
    refine At.cond (ja R) (fun hb6=>?_) (fun hb6=>?_)
    ·replace hF:=W.ite_t hb6 hF
     refine At.skip (At.vh (At.seq (At.block (At.seq (At.region ?_)))))
     obtain ⟨hq13,hF⟩:=hF
     refine At.d R R R R (does_idx_row (ja R) 1 R (ja R) Tryz.underlying79 ty_82 hq13) ?_
     obtain ⟨hq14,hF⟩:=hF
     refine At.d R R R R (Jc (ja R) 1 R t6 0 R zborder_line hq14 (Sub.self kborder_line) ty_82) ?_
     refine At.f R (eff_alloc R R R tz_82) ?_
     rintro _ _ ⟨g7,rfl,rfl⟩
     refine At.f R (jx R R (ja R) 0 R (Sub.self kborder_line) ty_82 (ja R)) ?_
     rintro _ _ ⟨rfl,rfl⟩
     refine At.done (At.vh (At.region (At.d R R R R (jb (x:=(.eq v17)) (ja R)) ?_)))
     refine At.d R R R R (je (ja R) fa_82_1) ?_
     refine At.d R R R R (jc (ja R) 0 R sub_border_line_1 ty_41) ?_
     refine At.f R (jy R R R (os:=[.tmp 27]) R sl_28 (xs:=([(rd zborder_line r2 t6).owners]:List (List BA))) (jf (ja R) jg) R R) ?_
     rintro _ _ ⟨v18,rfl,rfl⟩
     obtain ⟨hq15,hF⟩:=hF
     refine At.f R (eff_append_row R R R 4 0 R R (ja R) (ja R) sl_28 hq15) ?_
     rintro _ _ ⟨v19,rfl,rfl⟩
     refine At.d R R R R (jd (x:=(.eq v19)) (ja R)) ?_
     refine At.done ?_
     refine At.n ?_
     refine At.vh (At.region (At.d R R R R (jk (ja R) (ji _ _) vc) ?_))
     refine At.d R R R R (jb (x:=(.tv (kInt .i64) (w64 (t6+(1:Int))))) (ja R)) ?_
     refine At.done (At.vh ?_)
     refine At.w [2,3,4] R [(4,(.eq (.pointer (some ⟨g2,0,none⟩)))),(6,(.eq v1)),(7,(.eq v19)),(19,(.eq v1)),(20,(.tv (kInt .i64) (r2.length:Int))),(21,(.tv (kInt .i64) (w64 (t6+(1:Int)))))] ⟨R,R,R,R,R,R,trivial⟩ (At.r ⟨(x7++([(rd zborder_line r2 t6).owners]:List (List BA))),v19,(w64 (t6+(1:Int))),hF,R,R⟩)
    ·replace hF:=W.ite_f hb6 hF
     refine At.exit ?_
     refine At.x (At.x ?_)
     refine At.h ?_
     refine At.vh ?_
     refine At.w [0,1,2] R [(4,(.eq (.pointer (some ⟨g2,0,none⟩)))),(6,(.eq v1)),(7,(.eq v17))] ⟨R,R,R,trivial⟩ (At.r ⟨x7,v17,hF,R,R⟩)
  ·rintro _ _ ⟨x4,v9,hF,rfl,rfl⟩
   unfold border_Segments.c1 at hF
   refine At.seq (At.region (At.d R R R R (jc (ja R) 0 R (Sub.self kborder_parcel) ty_76) ?_))
   refine At.d R R R R (jb (x:=(.eq v1)) (ja R)) ?_
   refine At.freeze2 1 6 32 R R R ?_
   replace hF:=W.vm hF
   refine At.f R (jo R R (jq R en_32 (jf (ja R) (jf (ja R) jg))) [] R (Je.ok hF)) ?_
   rintro _ _ ⟨_,_,⟨r3,v10,hF,rfl,rfl⟩,rfl,rfl⟩
   refine At.d R R R R (jb (x:=(.eq v9)) (ja R)) ?_
   refine At.d R R R R (jd (x:=(.eq v10)) (ja R)) ?_
   refine At.d R R R R (jd (x:=(.eq v9)) (ja R)) ?_
   refine At.done (At.vh (At.ret ?_))
   exact At.ret_2 rfl (rv_tmp rfl) (rv_tmp rfl) [0,3] rfl ⟨(r3,x4),_,_,hF,rfl,rfl⟩
def border_Free_1__p.c1 (t3:Bool):W Bool:=W.ite t3 (W.ret true) (W.ret false)
def border_Free_1__p.F (t1:Segment) (t2:Segment):W Bool:=W.bind (geom_Meets.F t1 t2) (fun r1=>W.ite (r1==(2:Int)) ((border_Free_1__p.c1) (r1==(2:Int))) (W.ite (r1==(3:Int)) ((border_Free_1__p.c1) (r1==(3:Int))) ((border_Free_1__p.c1) (r1==(5:Int)))))
theorem border_Free_1__p.ok {t1:Segment} {t2:Segment} {Q:Bool→Prop} (hF:border_Free_1__p.F t1 t2 Q):Con Tryz.prog 46 [.tv kSegment t1,.ptr kSegment t2] [] (fun ta rs'=>∃ (r:Bool),Q r∧ta=.tv kBool r∧rs'=[]):=by
 refine Con.i Tryz.func46 Tryz.ntmps46 R R (fun C=>?_)
 unfold border_Free_1__p.F at hF
 refine At.seq (At.region (At.f R (jw R R R (ja R)) ?_))
 rintro _ _ ⟨g1,rfl,rfl⟩
 refine At.d R R R R (jd (x:=(.tv kBool false)) (jl _)) ?_
 refine At.done (At.vh (At.seq (At.seq (At.region (At.d R R R R (jc (ja R) 0 R (Sub.self kSegment) ty_39) ?_)))))
 refine At.d R R R R (vq (K:=kSegment) (ja R) ty_39) ?_
 replace hF:=W.vm hF
 refine At.f R (jn R R jp (jq R en_23 (jf (ja R) (jf (ja R) jg))) (geom_Meets.ok hF) (by rintro _ _ ⟨r,_,rfl,_⟩;exact flat_int)) ?_
 rintro _ _ ⟨_,_,⟨r1,hF,rfl,rfl⟩,rfl,rfl⟩
 refine At.done (At.vh (At.block ?_))
 refine At.cut (fun rs L=>∃ (t3:Bool),border_Free_1__p.c1 t3 Q∧rs=[]∧L=mkL [(7,(.tv kBool t3))]) ?_ ?_
 ·refine At.seq (At.region (At.d R R R R (jk (ja R) (ji _ _) bin_eql) ?_))
  refine At.d R R R R (jd (x:=(.tv kBool (r1==(2:Int)))) (ja R)) ?_
  refine At.done (At.vh ?_)
  refine At.cond (ja R) (fun hb4=>?_) (fun hb4=>?_)
  ·replace hF:=W.ite_t hb4 hF
   refine At.skip (At.vh ?_)
   refine At.w [] R [(7,(.tv kBool (r1==(2:Int))))] ⟨R,trivial⟩ (At.r ⟨(r1==(2:Int)),hF,R,R⟩)
  ·replace hF:=W.ite_f hb4 hF
   refine At.seq (At.region (At.d R R R R (jk (ja R) (ji _ _) bin_eql) ?_))
   refine At.d R R R R (jd (x:=(.tv kBool (r1==(3:Int)))) (ja R)) ?_
   refine At.done (At.vh ?_)
   refine At.cond (ja R) (fun hb5=>?_) (fun hb5=>?_)
   ·replace hF:=W.ite_t hb5 hF
    refine At.skip (At.vh ?_)
    refine At.w [] R [(7,(.tv kBool (r1==(3:Int))))] ⟨R,trivial⟩ (At.r ⟨(r1==(3:Int)),hF,R,R⟩)
   ·replace hF:=W.ite_f hb5 hF
    refine At.region (At.d R R R R (jk (ja R) (ji _ _) bin_eql) ?_)
    refine At.d R R R R (jd (x:=(.tv kBool (r1==(5:Int)))) (ja R)) ?_
    refine At.done (At.vh ?_)
    refine At.w [] R [(7,(.tv kBool (r1==(5:Int))))] ⟨R,trivial⟩ (At.r ⟨(r1==(5:Int)),hF,R,R⟩)
 ·rintro _ _ ⟨t3,hF,rfl,rfl⟩
  unfold border_Free_1__p.c1 at hF
  refine At.cond (ja R) (fun hb3=>?_) (fun hb3=>?_)
  ·replace hF:=W.ite_t hb3 hF
   refine At.seq (At.region (At.d R R R R (jd (x:=(.tv kBool true)) (jl _)) ?_))
   refine At.done (At.vh (At.ret ?_))
   refine At.q ?_
   refine At.vi ?_
   exact At.j rfl (rv_tmp rfl) [] rfl ⟨true,hF,rfl,rfl⟩
  ·replace hF:=W.ite_f hb3 hF
   refine At.skip ?_
   refine At.n ?_
   refine At.vh (At.seq (At.region (At.d R R R R (jd (x:=(.tv kBool false)) (jl _)) ?_)))
   refine At.done (At.vh (At.ret ?_))
   exact At.j rfl (rv_tmp rfl) [] rfl ⟨false,hF,rfl,rfl⟩
def vr.c1:W Int:=W.ret (-1:Int)
def vr.l1 (s1:(List Segment)) (c1:Segment) (K1:W Int) (A1:Int→W Int) (t6:Int):W Int:=W.ite (decide (t6<(s1.length:Int))) (W.req (0≤t6∧t6<(s1.length:Int)) (W.bind (border_Free_1__p.F (rd zSegment s1 t6) c1) (fun r5=>W.ite r5 (W.ret t6) (A1 (w64 (t6+(1:Int))))))) (K1)
def vr.F (s1:(List Segment)) (c1:Segment):W Int:=W.ex fun n=>W.iter1 (vr.l1 s1 c1 (vr.c1)) n (0:Int)
theorem vr.ok {s1:(List Segment)} {c1:Segment} {Q:Int→Prop} (hF:vr.F s1 c1 Q):Con Tryz.prog 74 [.tv (kSlice kSegment) s1,.cls 46 0 (tupl [.ptr kSegment c1])] [] (fun ta rs'=>∃ (r:Int),Q r∧ta=.tv (kInt .i64) r∧rs'=[]):=by
 refine Con.i Tryz.func74 Tryz.ntmps74 R R (fun C=>?_)
 unfold vr.F at hF
 refine At.seq (At.region (At.d R R R R (jd (x:=(.tv (kInt .i64) (0:Int))) (ji _ _)) ?_))
 refine At.done (At.vh ?_)
 refine At.cut (fun rs L=>∃ _:Unit,vr.c1 Q∧rs=[]∧L=mkL []) ?_ ?_
 ·refine At.seq (At.region (At.d R R R R (jb (x:=(.tv (kSlice kSegment) s1)) (ja R)) ?_))
  refine At.d R R R R (js (ja R) Tryz.underlying27) ?_
  refine At.d R R R R (jb (x:=(.tv (kInt .i64) (0:Int))) (ji _ _)) ?_
  refine At.done (At.vh (At.block ?_))
  obtain ⟨n1,hF⟩:=hF
  refine At.w [] R [(0,(.tv (kSlice kSegment) s1)),(1,(.cls 46 0 (tupl [(.ptr kSegment c1)]))),(7,(.tv (kInt .i64) (s1.length:Int))),(8,(.tv (kInt .i64) (0:Int)))] ⟨R,R,R,R,trivial⟩ ?_
  refine At.loop (fun m rs L=>∃ (t6:Int),W.iter1 (vr.l1 s1 c1 (vr.c1)) m t6 Q∧rs=[]∧L=mkL [(0,(.tv (kSlice kSegment) s1)),(1,(.cls 46 0 (tupl [(.ptr kSegment c1)]))),(7,(.tv (kInt .i64) (s1.length:Int))),(8,(.tv (kInt .i64) t6))]) ?_ ?_ (m:=n1) ⟨(0:Int),hF,R,R⟩
  ·rintro rs L ⟨_,hF,_,_⟩;exact hF
  ·rintro m1 _ _ ⟨t6,hF,rfl,rfl⟩
   replace hF:=W.iter1_s hF
   unfold vr.l1 at hF
   refine At.seq (At.region (At.d R R R R (jk (ja R) (ja R) vd) ?_))
   refine At.done (At.vh (At.seq ?_))
   refine At.cond (ja R) (fun hb9=>?_) (fun hb9=>?_)
   ·replace hF:=W.ite_t hb9 hF
    refine At.skip (At.vh (At.seq (At.block (At.seq (At.region (At.d R R R R (jb (x:=(.tv (kInt .i64) t6)) (ja R)) ?_))))))
    refine At.d R R R R (jd (x:=(.tv (kInt .i64) t6)) (ja R)) ?_
    refine At.done (At.vh (At.seq (At.region (At.d R R R R (jb (x:=(.cls 46 0 (tupl [(.ptr kSegment c1)]))) (ja R)) ?_))))
    refine At.d R R R R (jb (x:=(.tv (kSlice kSegment) s1)) (ja R)) ?_
    refine At.d R R R R (jb (x:=(.tv (kInt .i64) t6)) (ja R)) ?_
    obtain ⟨hq5,hF⟩:=hF
    refine At.d R R R R (vf zSegment (ja R) (ja R) Tryz.underlying27 ty_39 hq5) ?_
    refine At.d R R R R (vq (K:=kSegment) (ja R) ty_39) ?_
    replace hF:=W.vm hF
    refine At.f R (jn R R jp (ent_val0 R (ja R) en_46 (jf (ja R) jg)) (border_Free_1__p.ok hF) (by rintro _ _ ⟨r,_,rfl,_⟩;exact vl)) ?_
    rintro _ _ ⟨_,_,⟨r5,hF,rfl,rfl⟩,rfl,rfl⟩
    refine At.done (At.vh ?_)
    refine At.cond (ja R) (fun hb10=>?_) (fun hb10=>?_)
    ·replace hF:=W.ite_t hb10 hF
     refine At.seq (At.region (At.d R R R R (jb (x:=(.tv (kInt .i64) t6)) (ja R)) ?_))
     refine At.d R R R R (jd (x:=(.tv (kInt .i64) t6)) (ja R)) ?_
     refine At.done (At.vh (At.ret ?_))
     refine At.q ?_
     refine At.vi (At.vi ?_)
     refine At.q ?_
     refine At.vi ?_
     exact At.j rfl (rv_tmp rfl) [] rfl ⟨t6,hF,rfl,rfl⟩
    ·replace hF:=W.ite_f hb10 hF
     refine At.skip ?_
     refine At.n ?_
     refine At.vh (At.region (At.d R R R R (jk (ja R) (ji _ _) vc) ?_))
     refine At.d R R R R (jb (x:=(.tv (kInt .i64) (w64 (t6+(1:Int))))) (ja R)) ?_
     refine At.done (At.vh ?_)
     refine At.w [] R [(0,(.tv (kSlice kSegment) s1)),(1,(.cls 46 0 (tupl [(.ptr kSegment c1)]))),(7,(.tv (kInt .i64) (s1.length:Int))),(8,(.tv (kInt .i64) (w64 (t6+(1:Int)))))] ⟨R,R,R,R,trivial⟩ (At.r ⟨(w64 (t6+(1:Int))),hF,R,R⟩)
   ·replace hF:=W.ite_f hb9 hF
    refine At.exit ?_
    refine At.x (At.x ?_)
    refine At.h ?_
    refine At.vh ?_
    refine At.w [] R [] trivial (At.r ⟨(),hF,R,R⟩)
 ·rintro _ _ ⟨_,hF,rfl,rfl⟩
  unfold vr.c1 at hF
  refine At.seq (At.region (At.d R R R R (jd (x:=(.tv (kInt .i64) (-1:Int))) (ji _ _)) ?_))
  refine At.done (At.vh (At.ret ?_))
  exact At.j rfl (rv_tmp rfl) [] rfl ⟨(-1:Int),hF,rfl,rfl⟩
def Jj.F (s1:(List Segment)) (c1:Segment):W Bool:=W.bind (vr.F s1 c1) (fun r1=>W.ret (decide ((0:Int)≤r1)))
theorem Jj.ok {s1:(List Segment)} {c1:Segment} {Q:Bool→Prop} (hF:Jj.F s1 c1 Q):Con Tryz.prog 45 [.tv (kSlice kSegment) s1,.cls 46 0 (tupl [.ptr kSegment c1])] [] (fun ta rs'=>∃ (r:Bool),Q r∧ta=.tv kBool r∧rs'=[]):=by
 refine Con.i Tryz.func45 Tryz.ntmps45 R R (fun C=>?_)
 unfold Jj.F at hF
 refine At.seq (At.region (At.d R R R R (jd (x:=(.tv kBool false)) (jl _)) ?_))
 refine At.done (At.vh (At.seq (At.region (At.d R R R R (jb (x:=(.tv (kSlice kSegment) s1)) (ja R)) ?_))))
 refine At.d R R R R (jb (x:=(.cls 46 0 (tupl [(.ptr kSegment c1)]))) (ja R)) ?_
 replace hF:=W.vm hF
 refine At.f R (jn R R jp (jq R en_74 (jf (ja R) (jf (ja R) jg))) (vr.ok hF) (by rintro _ _ ⟨r,_,rfl,_⟩;exact flat_int)) ?_
 rintro _ _ ⟨_,_,⟨r1,hF,rfl,rfl⟩,rfl,rfl⟩
 refine At.d R R R R (jk (ja R) (ji _ _) bin_geq) ?_
 refine At.d R R R R (jd (x:=(.tv kBool (decide ((0:Int)≤r1)))) (ja R)) ?_
 refine At.done (At.vh (At.ret ?_))
 exact At.j rfl (rv_tmp rfl) [] rfl ⟨(decide ((0:Int)≤r1)),hF,rfl,rfl⟩
def border_Free.F (m1:Map) (s1:Segment):W Bool:=W.bind (border_of.F m1) (fun r1=>W.ite (((!r1.2)||(decide ((iMin [s1.A.X,s1.A.Y,s1.B.X,s1.B.Y])<(-2097152:Int))))||(decide ((2097152:Int)<(iMax [s1.A.X,s1.A.Y,s1.B.X,s1.B.Y])))) (W.ret false) (W.bind (vw.F r1.1) (fun r2=>W.bind (Je.F r1.1 r2) (fun r3=>W.bind (Jj.F r3 s1) (fun r4=>W.ret (!r4))))))
theorem border_Free.ok {m1:Map} {s1:Segment} {Q:Bool→Prop} (hF:border_Free.F m1 s1 Q):Con Tryz.prog 18 [.tv kMap m1,.tv kSegment s1] [] (fun ta rs'=>∃ (r:Bool),Q r∧ta=.tv kBool r∧rs'=[]):=by
 refine Con.i Tryz.func18 Tryz.ntmps18 R R (fun C=>?_)
 unfold border_Free.F at hF
 refine At.seq (At.region (At.f R (jw R R R (ja R)) ?_))
 rintro _ _ ⟨g1,rfl,rfl⟩
 refine At.f R (jw R R R (ja R)) ?_
 rintro _ _ ⟨g2,rfl,rfl⟩
 refine At.d R R R R (jd (x:=(.tv kBool false)) (jl _)) ?_
 refine At.done (At.vh (At.seq (At.region (At.d R R R R (jc (ja R) 1 R (Sub.self kMap) ty_24) ?_))))
 replace hF:=W.vm hF
 refine At.f R (jo R R (jq R en_30 (jf (ja R) jg)) [] R (border_of.ok hF)) ?_
 rintro _ _ ⟨_,_,⟨r1,hF,rfl,rfl⟩,rfl,rfl⟩
 refine At.d R R R R (jb (x:=(.tup2 (.tv kborder_parcel r1.1) (.tv kBool r1.2))) (ja R)) ?_
 refine At.d R R R R (does_extract20 (ja R)) ?_
 refine At.d R R R R (does_extract21 (ja R)) ?_
 refine At.f R (eff_alloc R R R tz_76) ?_
 rintro _ _ ⟨g3,rfl,rfl⟩
 refine At.f R (jx R R (ja R) 0 R (Sub.self kborder_parcel) ty_76 (ja R)) ?_
 rintro _ _ ⟨rfl,rfl⟩
 refine At.d R R R R (jd (x:=(.tv kBool r1.2)) (ja R)) ?_
 refine At.done (At.vh (At.seq (At.seq (At.region (At.d R R R R (jb (x:=(.tv kBool r1.2)) (ja R)) ?_)))))
 refine At.d R R R R (does_not (ja R)) ?_
 refine At.d R R R R (jb (x:=(.tv kBool (!r1.2))) (ja R)) ?_
 refine At.vj R R R R (jv R) R (fun hg1=>(je (ja R) fa_39_0)) ?_
 refine At.vj R R R R (jv R) R (fun hg2=>(je (jh R hg2) fa_37_0)) ?_
 refine At.vj R R R R (jv R) R (fun hg3=>(jc (jh R hg3) 1 R sub_Segment_0_0 ty_3)) ?_
 refine At.vj R R R R (jv R) R (fun hg4=>(je (ja R) fa_39_0)) ?_
 refine At.vj R R R R (jv R) R (fun hg5=>(je (jh R hg5) fa_37_1)) ?_
 refine At.vj R R R R (jv R) R (fun hg6=>(jc (jh R hg6) 1 R sub_Segment_0_1 ty_3)) ?_
 refine At.vj R R R R (jv R) R (fun hg7=>(je (ja R) fa_39_1)) ?_
 refine At.vj R R R R (jv R) R (fun hg8=>(je (jh R hg8) fa_37_0)) ?_
 refine At.vj R R R R (jv R) R (fun hg9=>(jc (jh R hg9) 1 R sub_Segment_1_0 ty_3)) ?_
 refine At.vj R R R R (jv R) R (fun hg10=>(je (ja R) fa_39_1)) ?_
 refine At.vj R R R R (jv R) R (fun hg11=>(je (jh R hg11) fa_37_1)) ?_
 refine At.vj R R R R (jv R) R (fun hg12=>(jc (jh R hg12) 1 R sub_Segment_1_1 ty_3)) ?_
 refine At.vj R R R R (jv R) R (fun hg13=>(does_mins (n:=s1.A.X) (ns:=[s1.A.Y,s1.B.X,s1.B.Y]) (jf (jh R hg13) (jf (jh R hg13) (jf (jh R hg13) (jf (jh R hg13) jg)))))) ?_
 refine At.vj R R R R (jv R) R (fun hg14=>(jk (jh R hg14) (ji _ _) vd)) ?_
 refine At.d R R R R (jm (ja R) (jl _) (ja R) pick_or) ?_
 refine At.d R R R R (jb (x:=(.tv kBool ((!r1.2)||(decide ((iMin [s1.A.X,s1.A.Y,s1.B.X,s1.B.Y])<(-2097152:Int)))))) (ja R)) ?_
 refine At.vj R R R R (jv R) R (fun hg15=>(je (ja R) fa_39_0)) ?_
 refine At.vj R R R R (jv R) R (fun hg16=>(je (jh R hg16) fa_37_0)) ?_
 refine At.vj R R R R (jv R) R (fun hg17=>(jc (jh R hg17) 1 R sub_Segment_0_0 ty_3)) ?_
 refine At.vj R R R R (jv R) R (fun hg18=>(je (ja R) fa_39_0)) ?_
 refine At.vj R R R R (jv R) R (fun hg19=>(je (jh R hg19) fa_37_1)) ?_
 refine At.vj R R R R (jv R) R (fun hg20=>(jc (jh R hg20) 1 R sub_Segment_0_1 ty_3)) ?_
 refine At.vj R R R R (jv R) R (fun hg21=>(je (ja R) fa_39_1)) ?_
 refine At.vj R R R R (jv R) R (fun hg22=>(je (jh R hg22) fa_37_0)) ?_
 refine At.vj R R R R (jv R) R (fun hg23=>(jc (jh R hg23) 1 R sub_Segment_1_0 ty_3)) ?_
 refine At.vj R R R R (jv R) R (fun hg24=>(je (ja R) fa_39_1)) ?_
 refine At.vj R R R R (jv R) R (fun hg25=>(je (jh R hg25) fa_37_1)) ?_
 refine At.vj R R R R (jv R) R (fun hg26=>(jc (jh R hg26) 1 R sub_Segment_1_1 ty_3)) ?_
 refine At.vj R R R R (jv R) R (fun hg27=>(does_maxs (n:=s1.A.X) (ns:=[s1.A.Y,s1.B.X,s1.B.Y]) (jf (jh R hg27) (jf (jh R hg27) (jf (jh R hg27) (jf (jh R hg27) jg)))))) ?_
 refine At.vj R R R R (jv R) R (fun hg28=>(jk (jh R hg28) (ji _ _) bin_gtr)) ?_
 refine At.d R R R R (jm (ja R) (jl _) (ja R) pick_or) ?_
 refine At.done (At.vh ?_)
 refine At.cond (ja R) (fun hb1=>?_) (fun hb1=>?_)
 ·replace hF:=W.ite_t hb1 hF
  refine At.seq (At.region (At.d R R R R (jd (x:=(.tv kBool false)) (jl _)) ?_))
  refine At.done (At.vh (At.ret (At.vi ?_)))
  exact At.j rfl (rv_tmp rfl) [] rfl ⟨false,hF,rfl,rfl⟩
 ·replace hF:=W.ite_f hb1 hF
  refine At.skip (At.vh (At.seq ?_))
  refine At.draw mixed [0,1,2] R [[],[],[]] (fun φ w hgd=>?_)
  replace hF:=W.vm hF
  refine AtH.take [0,1,2] hgd 0 R R R R (D':=#[Y,N,N,N,N,N,N,N]) (by kernel_rfl) (fun _ _ _ _ h=>h) R (jc (ja R) 0 R (Sub.self kborder_parcel) ty_76) ?_
  refine AtH.take [0,1,2] hgd 1 R R R R (D':=#[Y,Y,N,N,N,N,N,N]) (by kernel_rfl) (fun _ _ _ _ h=>h) R (jc (ja R) 0 R (Sub.self kborder_parcel) ty_76) ?_
  refine AtH.take [0,1,2] hgd 4 R R R R (D':=#[Y,Y,N,N,Y,N,N,N]) (by kernel_rfl) (fun _ _ _ _ h=>h) R (does_cls (firsts:=[]) (caps:=[.tmp 3]) R (jf (ja R) jg)) ?_
  refine AtH.all1 2 (by kernel_rfl) ?_
  refine AtH.f [(0,0),(1,1),(2,2)] R R R R R R (jo R R (jq R en_31 (jf (ja R) jg)) [] R (vw.ok hF)) (D':=#[Y,Y,Y,N,Y,N,N,N]) (by kernel_rfl) (by kernel_rfl) ?_
  rintro _ _ ⟨_,_,⟨r2,v3,hF,rfl,rfl⟩,rfl,rfl⟩
  refine ⟨.any,.inl R,?_⟩
  replace hF:=W.vm hF
  refine AtH.all1 3 (by kernel_rfl) ?_
  refine AtH.freeze 0 48 R R ?_
  refine AtH.f [(0,1),(1,2),(2,3)] R R R R R R (jo R R (jq R en_32 (jf (ja R) (jf (ja R) jg))) [] R (Je.ok hF)) (D':=#[Y,Y,Y,Y,Y,N,N,N]) (by kernel_rfl) (by kernel_rfl) ?_
  rintro _ _ ⟨_,_,⟨r3,v4,hF,rfl,rfl⟩,rfl,rfl⟩
  refine ⟨.any,.inl R,?_⟩
  replace hF:=W.vm hF
  refine AtH.all1 5 (by kernel_rfl) ?_
  refine AtH.f [(0,2),(1,3),(2,4)] R R R R R R (jn R R (lends_row 0 49 R R (lends_box 3 50 R R (lend1_cls (lend1_here lend1_ptr)) jp)) (jq R en_45 (jf (ja R) (jf (ja R) jg))) (Jj.ok hF) (by rintro _ _ ⟨r,_,rfl,_⟩;exact vl)) (D':=#[Y,Y,Y,Y,Y,Y,N,N]) (by kernel_rfl) (by kernel_rfl) ?_
  rintro _ _ ⟨_,_,⟨r4,hF,rfl,rfl⟩,rfl,rfl⟩
  refine ⟨_,.inr ⟨R,vl⟩,?_⟩
  refine AtH.take [0,1,2] hgd 6 R R R R (D':=#[Y,Y,Y,Y,Y,Y,Y,N]) (by kernel_rfl) (fun _ _ _ _ h=>h) R (does_not (ja R)) ?_
  refine AtH.take [0,1,2] hgd 7 R R R R (D':=#[Y,Y,Y,Y,Y,Y,Y,Y]) (by kernel_rfl) (fun _ _ _ _ h=>h) R (jd (x:=(.tv kBool (!r4))) (ja R)) ?_
  refine AtH.done (by kernel_rfl) ?_
  refine At.vh (At.ret ?_)
  exact At.j rfl (rv_tmp rfl) [] rfl ⟨(!r4),hF,rfl,rfl⟩
def law13_node.F (id1:BA) (x1:Int) (y1:Int):W Object:=W.ret (⟨id1,(1:Int),(⟨x1,y1⟩:Point),([]:List BA),([]:List Tag)⟩:Object)
theorem law13_node.ok {id1:BA} {x1:Int} {y1:Int} {Q:Object→Prop} (hF:law13_node.F id1 x1 y1 Q):Con Tryz.prog 64 [.tv kStr id1,.tv (kInt .i64) x1,.tv (kInt .i64) y1] [] (fun ta rs'=>∃ (r:Object),Q r∧ta=.tv kObject r∧rs'=[]):=by
 refine Con.i Tryz.func64 Tryz.ntmps64 R R (fun C=>?_)
 unfold law13_node.F at hF
 refine At.seq (At.region (At.f R (eff_alloc R R R tz_59) ?_))
 rintro _ _ ⟨g1,rfl,rfl⟩
 refine At.done (At.vh (At.seq (At.region (At.d R R R R (jb (x:=(.tv kStr id1)) (ja R)) ?_))))
 refine At.d R R R R (jb (x:=(.tv (kInt .i64) x1)) (ja R)) ?_
 refine At.d R R R R (jb (x:=(.tv (kInt .i64) y1)) (ja R)) ?_
 refine At.d R R R R (jz (jr (ja R) (jr (ja R) parts_nil)) zr_37 bd_37 R (fills_cons R sub_Point_0 (fills_cons R sub_Point_1 fills_nil))) ?_
 refine At.d R R R R (jz (jr (ja R) (jr (ji _ _) (jr (ja R) parts_nil))) zr_59 bd_59 R (fills_cons R sub_Object_0 (fills_cons R sub_Object_1 (fills_cons R sub_Object_2 fills_nil)))) ?_
 refine At.f R (jx R R (ja R) 0 R (Sub.self kObject) ty_59 (ja R)) ?_
 rintro _ _ ⟨rfl,rfl⟩
 refine At.done (At.vh (At.ret ?_))
 exact At.j rfl (rv_cell rfl 0 rfl ty_59) [] rfl ⟨(⟨id1,(1:Int),(⟨x1,y1⟩:Point),([]:List BA),([]:List Tag)⟩:Object),hF,rfl,rfl⟩
def law13_square.F (ways1:(List Object)):W Map:=W.bind (law13_node.F (⟨#[97]⟩:BA) (0:Int) (0:Int)) (fun r1=>W.bind (law13_node.F (⟨#[98]⟩:BA) (4:Int) (4:Int)) (fun r2=>W.bind (law13_node.F (⟨#[99]⟩:BA) (0:Int) (4:Int)) (fun r3=>W.bind (law13_node.F (⟨#[100]⟩:BA) (4:Int) (0:Int)) (fun r4=>W.req ((([r1,r2,r3,r4]:List Object).length+ways1.length)*88≤140737488355328∧([r1,r2,r3,r4]:List Object).length+ways1.length≤140737488355328) (W.ret (⟨(([r1,r2,r3,r4]:List Object)++ways1)⟩:Map))))))
theorem law13_square.ok {ways1:(List Object)} {Q:Map→Prop} (hF:law13_square.F ways1 Q):Con Tryz.prog 28 [.tv (kSlice kObject) ways1] [] (fun ta rs'=>∃ (r:Map),Q r∧ta=.tv kMap r∧rs'=[]):=by
 refine Con.i Tryz.func28 Tryz.ntmps28 R R (fun C=>?_)
 unfold law13_square.F at hF
 refine At.seq (At.region (At.f R (eff_alloc R R R tz_24) ?_))
 rintro _ _ ⟨g1,rfl,rfl⟩
 refine At.done (At.vh (At.seq (At.region ?_)))
 replace hF:=W.vm hF
 refine At.f R (jo R R (jq R en_64 (jf (vg _) (jf (ji _ _) (jf (ji _ _) jg)))) [] R (law13_node.ok hF)) ?_
 rintro _ _ ⟨_,_,⟨r1,hF,rfl,rfl⟩,rfl,rfl⟩
 replace hF:=W.vm hF
 refine At.f R (jo R R (jq R en_64 (jf (vg _) (jf (ji _ _) (jf (ji _ _) jg)))) [] R (law13_node.ok hF)) ?_
 rintro _ _ ⟨_,_,⟨r2,hF,rfl,rfl⟩,rfl,rfl⟩
 replace hF:=W.vm hF
 refine At.f R (jo R R (jq R en_64 (jf (vg _) (jf (ji _ _) (jf (ji _ _) jg)))) [] R (law13_node.ok hF)) ?_
 rintro _ _ ⟨_,_,⟨r3,hF,rfl,rfl⟩,rfl,rfl⟩
 replace hF:=W.vm hF
 refine At.f R (jo R R (jq R en_64 (jf (vg _) (jf (ji _ _) (jf (ji _ _) jg)))) [] R (law13_node.ok hF)) ?_
 rintro _ _ ⟨_,_,⟨r4,hF,rfl,rfl⟩,rfl,rfl⟩
 refine At.f R (jy R R R (os:=[.tmp 4,.tmp 5,.tmp 6,.tmp 7]) R sl_22 (xs:=([r1,r2,r3,r4]:List Object)) (jf (ja R) (jf (ja R) (jf (ja R) (jf (ja R) jg)))) R R) ?_
 rintro _ _ ⟨v1,rfl,rfl⟩
 refine At.d R R R R (jd (x:=(.eq v1)) (ja R)) ?_
 refine At.done (At.vh (At.seq (At.region (At.d R R R R (jb (x:=(.eq v1)) (ja R)) ?_))))
 refine At.d R R R R (jb (x:=(.tv (kSlice kObject) ways1)) (ja R)) ?_
 obtain ⟨hq1,hF⟩:=hF
 refine At.f R (eff_append_view R R R 0 R (ja R) (ja R) sl_22 hq1) ?_
 rintro _ _ ⟨v2,rfl,rfl⟩
 refine At.freeze 0 11 R R ?_
 refine At.d R R R R (jz (jr (ja R) parts_nil) zr_24 bd_24 R (fills_cons R sub_Map_0 fills_nil)) ?_
 refine At.f R (jx R R (ja R) 1 R (Sub.self kMap) ty_24 (ja R)) ?_
 rintro _ _ ⟨rfl,rfl⟩
 refine At.done (At.vh (At.ret ?_))
 exact At.j rfl (rv_cell rfl 1 rfl ty_24) [] rfl ⟨(⟨(([r1,r2,r3,r4]:List Object)++ways1)⟩:Map),hF,rfl,rfl⟩
def law13_way.F (id1:BA) (refs1:(List BA)):W Object:=W.ret (⟨id1,(2:Int),zPoint,refs1,([]:List Tag)⟩:Object)
theorem law13_way.ok {id1:BA} {refs1:(List BA)} {Q:Object→Prop} (hF:law13_way.F id1 refs1 Q):Con Tryz.prog 27 [.tv kStr id1,.tv (kSlice kStr) refs1] [] (fun ta rs'=>∃ (r:Object),Q r∧ta=.tv kObject r∧rs'=[]):=by
 refine Con.i Tryz.func27 Tryz.ntmps27 R R (fun C=>?_)
 unfold law13_way.F at hF
 refine At.seq (At.region (At.f R (eff_alloc R R R tz_59) ?_))
 rintro _ _ ⟨g1,rfl,rfl⟩
 refine At.done (At.vh (At.seq (At.region (At.d R R R R (jb (x:=(.tv kStr id1)) (ja R)) ?_))))
 refine At.d R R R R (jb (x:=(.tv (kSlice kStr) refs1)) (ja R)) ?_
 refine At.d R R R R (jz (jr (ja R) (jr (ji _ _) (jr (ja R) parts_nil))) zr_59 bd_59 R (fills_cons R sub_Object_0 (fills_cons R sub_Object_1 (fills_cons R sub_Object_3 fills_nil)))) ?_
 refine At.f R (jx R R (ja R) 0 R (Sub.self kObject) ty_59 (ja R)) ?_
 rintro _ _ ⟨rfl,rfl⟩
 refine At.done (At.vh (At.ret ?_))
 exact At.j rfl (rv_cell rfl 0 rfl ty_59) [] rfl ⟨(⟨id1,(2:Int),zPoint,refs1,([]:List Tag)⟩:Object),hF,rfl,rfl⟩
def ref13_Before.c1 (a1:(List BA)) (b1:(List BA)):W Bool:=W.ret (decide ((a1.length:Int)<(b1.length:Int)))
def ref13_Before.l1 (a1:(List BA)) (b1:(List BA)) (K1:W Bool) (A1:Int→W Bool) (i6:Int):W Bool:=W.ite ((decide (i6<(a1.length:Int)))&&(decide (i6<(b1.length:Int)))) (W.req (0≤i6∧i6<(a1.length:Int)) (W.req (0≤i6∧i6<(b1.length:Int)) (W.ite (!(sEq (rd (⟨#[]⟩:BA) a1 i6) (rd (⟨#[]⟩:BA) b1 i6))) (W.req (0≤i6∧i6<(a1.length:Int)) (W.req (0≤i6∧i6<(b1.length:Int)) (W.ret (sLt (rd (⟨#[]⟩:BA) a1 i6) (rd (⟨#[]⟩:BA) b1 i6))))) (A1 (w64 (i6+(1:Int))))))) (K1)
def ref13_Before.F (a1:(List BA)) (b1:(List BA)):W Bool:=W.ex fun n=>W.iter1 (ref13_Before.l1 a1 b1 (ref13_Before.c1 a1 b1)) n (0:Int)
theorem ref13_Before.ok {a1:(List BA)} {b1:(List BA)} {Q:Bool→Prop} (hF:ref13_Before.F a1 b1 Q):Con Tryz.prog 21 [.tv (kSlice kStr) a1,.tv (kSlice kStr) b1] [] (fun ta rs'=>∃ (r:Bool),Q r∧ta=.tv kBool r∧rs'=[]):=by
 refine Con.i Tryz.func21 Tryz.ntmps21 R R (fun C=>?_)
 unfold ref13_Before.F at hF
 refine At.seq (At.region (At.d R R R R (jd (x:=(.tv kBool false)) (jl _)) ?_))
 refine At.done (At.vh ?_)
 refine At.cut (fun rs L=>∃ _:Unit,ref13_Before.c1 a1 b1 Q∧rs=[]∧L=mkL [(0,(.tv (kSlice kStr) a1)),(1,(.tv (kSlice kStr) b1))]) ?_ ?_
 ·refine At.seq (At.region (At.d R R R R (jd (x:=(.tv (kInt .i64) (0:Int))) (ji _ _)) ?_))
  refine At.done (At.vh (At.block ?_))
  obtain ⟨n1,hF⟩:=hF
  refine At.w [] R [(0,(.tv (kSlice kStr) a1)),(1,(.tv (kSlice kStr) b1)),(5,(.tv (kInt .i64) (0:Int)))] ⟨R,R,R,trivial⟩ ?_
  refine At.loop (fun m rs L=>∃ (i6:Int),W.iter1 (ref13_Before.l1 a1 b1 (ref13_Before.c1 a1 b1)) m i6 Q∧rs=[]∧L=mkL [(0,(.tv (kSlice kStr) a1)),(1,(.tv (kSlice kStr) b1)),(5,(.tv (kInt .i64) i6))]) ?_ ?_ (m:=n1) ⟨(0:Int),hF,R,R⟩
  ·rintro rs L ⟨_,hF,_,_⟩;exact hF
  ·rintro m1 _ _ ⟨i6,hF,rfl,rfl⟩
   replace hF:=W.iter1_s hF
   unfold ref13_Before.l1 at hF
   refine At.seq (At.seq (At.region (At.d R R R R (jb (x:=(.tv (kInt .i64) i6)) (ja R)) ?_)))
   refine At.d R R R R (jb (x:=(.tv (kSlice kStr) a1)) (ja R)) ?_
   refine At.d R R R R (js (ja R) Tryz.underlying41) ?_
   refine At.d R R R R (jk (ja R) (ja R) vd) ?_
   refine At.d R R R R (jb (x:=(.tv kBool (decide (i6<(a1.length:Int))))) (ja R)) ?_
   refine At.vj R R R R (ju R) R (fun hg17=>(jb (x:=(.tv (kInt .i64) i6)) (ja R))) ?_
   refine At.vj R R R R (ju R) R (fun hg18=>(jb (x:=(.tv (kSlice kStr) b1)) (ja R))) ?_
   refine At.vj R R R R (ju R) R (fun hg19=>(js (jh R hg19) Tryz.underlying41)) ?_
   refine At.vj R R R R (ju R) R (fun hg20=>(jk (jh R hg20) (jh R hg20) vd)) ?_
   refine At.d R R R R (jm (ja R) (ja R) (jl _) ve) ?_
   refine At.done (At.vh ?_)
   refine At.cond (ja R) (fun hb9=>?_) (fun hb9=>?_)
   ·replace hF:=W.ite_t hb9 hF
    refine At.skip (At.vh (At.seq (At.block (At.seq ?_))))
    refine At.draw mixed [] R [] (fun φ w hgd=>?_)
    obtain ⟨hq17,hF⟩:=hF
    obtain ⟨hq18,hF⟩:=hF
    refine AtH.take [] hgd 0 R R R R (D':=#[Y,N,N,N,N,N,N,N,N]) (by kernel_rfl) (fun _ _ _ _ h=>h) R (jb (x:=(.tv (kSlice kStr) a1)) (ja R)) ?_
    refine AtH.take [] hgd 1 R R R R (D':=#[Y,Y,N,N,N,N,N,N,N]) (by kernel_rfl) (fun _ _ _ _ h=>h) R (jb (x:=(.tv (kInt .i64) i6)) (ja R)) ?_
    refine AtH.take [] hgd 2 R R R R (D':=#[Y,Y,Y,N,N,N,N,N,N]) (by kernel_rfl) (fun _ _ _ _ h=>h) R (vf (⟨#[]⟩:BA) (ja R) (ja R) Tryz.underlying41 ty_9 hq17) ?_
    refine AtH.take [] hgd 3 R R R R (D':=#[Y,Y,Y,Y,N,N,N,N,N]) (by kernel_rfl) (fun _ _ _ _ h=>h) R (vq (K:=kStr) (ja R) ty_9) ?_
    refine AtH.take [] hgd 4 R R R R (D':=#[Y,Y,Y,Y,Y,N,N,N,N]) (by kernel_rfl) (fun _ _ _ _ h=>h) R (jb (x:=(.tv (kSlice kStr) b1)) (ja R)) ?_
    refine AtH.take [] hgd 5 R R R R (D':=#[Y,Y,Y,Y,Y,Y,N,N,N]) (by kernel_rfl) (fun _ _ _ _ h=>h) R (jb (x:=(.tv (kInt .i64) i6)) (ja R)) ?_
    refine AtH.take [] hgd 6 R R R R (D':=#[Y,Y,Y,Y,Y,Y,Y,N,N]) (by kernel_rfl) (fun _ _ _ _ h=>h) R (vf (⟨#[]⟩:BA) (ja R) (ja R) Tryz.underlying41 ty_9 hq18) ?_
    refine AtH.take [] hgd 7 R R R R (D':=#[Y,Y,Y,Y,Y,Y,Y,Y,N]) (by kernel_rfl) (fun _ _ _ _ h=>h) R (vq (K:=kStr) (ja R) ty_9) ?_
    refine AtH.take [] hgd 8 R R R R (D':=#[Y,Y,Y,Y,Y,Y,Y,Y,Y]) (by kernel_rfl) (fun _ _ _ _ h=>h) R (jk (ja R) (ja R) bin_sneq) ?_
    refine AtH.done (by kernel_rfl) ?_
    refine At.vh ?_
    refine At.cond (ja R) (fun hb10=>?_) (fun hb10=>?_)
    ·replace hF:=W.ite_t hb10 hF
     refine At.seq ?_
     refine At.draw mixed [] R [] (fun φ w hgd=>?_)
     obtain ⟨hq19,hF⟩:=hF
     obtain ⟨hq20,hF⟩:=hF
     refine AtH.take [] hgd 0 R R R R (D':=#[Y,N,N,N,N,N,N,N,N,N]) (by kernel_rfl) (fun _ _ _ _ h=>h) R (jb (x:=(.tv (kSlice kStr) a1)) (ja R)) ?_
     refine AtH.take [] hgd 1 R R R R (D':=#[Y,Y,N,N,N,N,N,N,N,N]) (by kernel_rfl) (fun _ _ _ _ h=>h) R (jb (x:=(.tv (kInt .i64) i6)) (ja R)) ?_
     refine AtH.take [] hgd 2 R R R R (D':=#[Y,Y,Y,N,N,N,N,N,N,N]) (by kernel_rfl) (fun _ _ _ _ h=>h) R (vf (⟨#[]⟩:BA) (ja R) (ja R) Tryz.underlying41 ty_9 hq19) ?_
     refine AtH.take [] hgd 3 R R R R (D':=#[Y,Y,Y,Y,N,N,N,N,N,N]) (by kernel_rfl) (fun _ _ _ _ h=>h) R (vq (K:=kStr) (ja R) ty_9) ?_
     refine AtH.take [] hgd 4 R R R R (D':=#[Y,Y,Y,Y,Y,N,N,N,N,N]) (by kernel_rfl) (fun _ _ _ _ h=>h) R (jb (x:=(.tv (kSlice kStr) b1)) (ja R)) ?_
     refine AtH.take [] hgd 5 R R R R (D':=#[Y,Y,Y,Y,Y,Y,N,N,N,N]) (by kernel_rfl) (fun _ _ _ _ h=>h) R (jb (x:=(.tv (kInt .i64) i6)) (ja R)) ?_
     refine AtH.take [] hgd 6 R R R R (D':=#[Y,Y,Y,Y,Y,Y,Y,N,N,N]) (by kernel_rfl) (fun _ _ _ _ h=>h) R (vf (⟨#[]⟩:BA) (ja R) (ja R) Tryz.underlying41 ty_9 hq20) ?_
     refine AtH.take [] hgd 7 R R R R (D':=#[Y,Y,Y,Y,Y,Y,Y,Y,N,N]) (by kernel_rfl) (fun _ _ _ _ h=>h) R (vq (K:=kStr) (ja R) ty_9) ?_
     refine AtH.take [] hgd 8 R R R R (D':=#[Y,Y,Y,Y,Y,Y,Y,Y,Y,N]) (by kernel_rfl) (fun _ _ _ _ h=>h) R (jk (ja R) (ja R) bin_slss) ?_
     refine AtH.take [] hgd 9 R R R R (D':=#[Y,Y,Y,Y,Y,Y,Y,Y,Y,Y]) (by kernel_rfl) (fun _ _ _ _ h=>h) R (jd (x:=(.tv kBool (sLt (rd (⟨#[]⟩:BA) a1 i6) (rd (⟨#[]⟩:BA) b1 i6)))) (ja R)) ?_
     refine AtH.done (by kernel_rfl) ?_
     refine At.vh (At.ret ?_)
     refine At.q ?_
     refine At.vi (At.vi ?_)
     refine At.q ?_
     refine At.vi ?_
     exact At.j rfl (rv_tmp rfl) [] rfl ⟨(sLt (rd (⟨#[]⟩:BA) a1 i6) (rd (⟨#[]⟩:BA) b1 i6)),hF,rfl,rfl⟩
    ·replace hF:=W.ite_f hb10 hF
     refine At.skip ?_
     refine At.n ?_
     refine At.vh (At.region (At.d R R R R (jb (x:=(.tv (kInt .i64) i6)) (ja R)) ?_))
     refine At.d R R R R (jk (ja R) (ji _ _) vc) ?_
     refine At.d R R R R (jd (x:=(.tv (kInt .i64) (w64 (i6+(1:Int))))) (ja R)) ?_
     refine At.done (At.vh ?_)
     refine At.w [] R [(0,(.tv (kSlice kStr) a1)),(1,(.tv (kSlice kStr) b1)),(5,(.tv (kInt .i64) (w64 (i6+(1:Int)))))] ⟨R,R,R,trivial⟩ (At.r ⟨(w64 (i6+(1:Int))),hF,R,R⟩)
   ·replace hF:=W.ite_f hb9 hF
    refine At.exit ?_
    refine At.x (At.x ?_)
    refine At.h ?_
    refine At.vh ?_
    refine At.w [] R [(0,(.tv (kSlice kStr) a1)),(1,(.tv (kSlice kStr) b1))] ⟨R,R,trivial⟩ (At.r ⟨(),hF,R,R⟩)
 ·rintro _ _ ⟨_,hF,rfl,rfl⟩
  unfold ref13_Before.c1 at hF
  refine At.seq (At.region (At.d R R R R (jb (x:=(.tv (kSlice kStr) a1)) (ja R)) ?_))
  refine At.d R R R R (js (ja R) Tryz.underlying41) ?_
  refine At.d R R R R (jb (x:=(.tv (kSlice kStr) b1)) (ja R)) ?_
  refine At.d R R R R (js (ja R) Tryz.underlying41) ?_
  refine At.d R R R R (jk (ja R) (ja R) vd) ?_
  refine At.d R R R R (jd (x:=(.tv kBool (decide ((a1.length:Int)<(b1.length:Int))))) (ja R)) ?_
  refine At.done (At.vh (At.ret ?_))
  exact At.j rfl (rv_tmp rfl) [] rfl ⟨(decide ((a1.length:Int)<(b1.length:Int))),hF,rfl,rfl⟩
def ref13_Ids.F (a1:(List BA)) (b1:(List BA)):W Bool:=W.bind (ref13_Before.F a1 b1) (fun r1=>W.bind (W.ite (!r1) (ref13_Before.F b1 a1) (W.ret false)) (fun r2=>W.ret ((!r1)&&(!r2))))
theorem ref13_Ids.ok {a1:(List BA)} {b1:(List BA)} {Q:Bool→Prop} (hF:ref13_Ids.F a1 b1 Q):Con Tryz.prog 29 [.tv (kSlice kStr) a1,.tv (kSlice kStr) b1] [] (fun ta rs'=>∃ (r:Bool),Q r∧ta=.tv kBool r∧rs'=[]):=by
 refine Con.i Tryz.func29 Tryz.ntmps29 R R (fun C=>?_)
 unfold ref13_Ids.F at hF
 refine At.seq (At.region (At.d R R R R (jd (x:=(.tv kBool false)) (jl _)) ?_))
 refine At.done (At.vh (At.seq (At.region (At.d R R R R (jb (x:=(.tv (kSlice kStr) a1)) (ja R)) ?_))))
 refine At.d R R R R (jb (x:=(.tv (kSlice kStr) b1)) (ja R)) ?_
 replace hF:=W.vm hF
 refine At.f R (jn R R jp (jq R en_21 (jf (ja R) (jf (ja R) jg))) (ref13_Before.ok hF) (by rintro _ _ ⟨r,_,rfl,_⟩;exact vl)) ?_
 rintro _ _ ⟨_,_,⟨r1,hF,rfl,rfl⟩,rfl,rfl⟩
 refine At.d R R R R (does_not (ja R)) ?_
 refine At.d R R R R (jb (x:=(.tv kBool (!r1))) (ja R)) ?_
 refine At.vj R R R R (ju R) R (fun hg1=>(jb (x:=(.tv (kSlice kStr) b1)) (ja R))) ?_
 refine At.vj R R R R (ju R) R (fun hg2=>(jb (x:=(.tv (kSlice kStr) a1)) (ja R))) ?_
 replace hF:=W.vm hF
 refine At.effG R R R R (ju R) hF (fun r=>.tv kBool r) (fun hg3 hF=>eff_of (jn R R jp (jq R en_21 (jf (jh R hg3) (jf (jh R hg3) jg))) (ref13_Before.ok hF) (by rintro _ _ ⟨r,_,rfl,_⟩;exact vl)) (by rintro _ _ ⟨_,_,⟨r,hF,rfl,rfl⟩,rfl,rfl⟩;exact ⟨r,hF,R,R⟩)) (fun r2 hF=>?_)
 refine At.vj R R R R (ju R) R (fun hg4=>(does_not (jh R hg4))) ?_
 refine At.d R R R R (jm (ja R) (ja R) (jl _) ve) ?_
 refine At.d R R R R (jd (x:=(.tv kBool ((!r1)&&(!r2)))) (ja R)) ?_
 refine At.done (At.vh (At.ret ?_))
 exact At.j rfl (rv_tmp rfl) [] rfl ⟨((!r1)&&(!r2)),hF,rfl,rfl⟩
def law13_head.c1 (t1:Bool):W Bool:=W.ret t1
def law13_head.F:W Bool:=W.bind (law13_way.F (⟨#[118]⟩:BA) ([(⟨#[97]⟩:BA),(⟨#[98]⟩:BA)]:List BA)) (fun r1=>W.bind (law13_way.F (⟨#[119]⟩:BA) ([(⟨#[99]⟩:BA),(⟨#[100]⟩:BA)]:List BA)) (fun r2=>W.bind (law13_square.F ([r1,r2]:List Object)) (fun r3=>W.bind (border_Check.F r3) (fun r4=>W.bind (law13_way.F (⟨#[118]⟩:BA) ([(⟨#[97]⟩:BA),(⟨#[98]⟩:BA)]:List BA)) (fun r5=>W.bind (law13_way.F (⟨#[119]⟩:BA) ([(⟨#[98]⟩:BA),(⟨#[99]⟩:BA)]:List BA)) (fun r6=>W.bind (law13_square.F ([r5,r6]:List Object)) (fun r7=>W.bind (border_Check.F r7) (fun r8=>W.bind (law13_way.F (⟨#[118]⟩:BA) ([(⟨#[97]⟩:BA),(⟨#[98]⟩:BA),(⟨#[97]⟩:BA)]:List BA)) (fun r9=>W.bind (law13_way.F (⟨#[119]⟩:BA) ([(⟨#[98]⟩:BA),(⟨#[97]⟩:BA)]:List BA)) (fun r10=>W.bind (law13_square.F ([r9,r10]:List Object)) (fun r11=>W.bind (border_Check.F r11) (fun r12=>W.bind (law13_way.F (⟨#[118]⟩:BA) ([(⟨#[97]⟩:BA),(⟨#[98]⟩:BA),(⟨#[97]⟩:BA)]:List BA)) (fun r13=>W.bind (law13_way.F (⟨#[119]⟩:BA) ([(⟨#[98]⟩:BA),(⟨#[97]⟩:BA)]:List BA)) (fun r14=>W.bind (law13_square.F ([r13,r14]:List Object)) (fun r15=>W.bind (border_Segments.F r15) (fun r16=>W.ite ((((r4.length:Int) != (1:Int))||((r16.1.length:Int) != (1:Int)))||((r16.2.length:Int) != (1:Int))) (W.ret false) (W.bind (law13_way.F (⟨#[118]⟩:BA) ([(⟨#[97]⟩:BA),(⟨#[98]⟩:BA)]:List BA)) (fun r17=>W.bind (law13_square.F ([r17]:List Object)) (fun r18=>W.bind (border_Free.F r18 (⟨(⟨(4:Int),(4:Int)⟩:Point),(⟨(9:Int),(0:Int)⟩:Point)⟩:Segment)) (fun r19=>W.req (0≤(0:Int)∧(0:Int)<(r4.length:Int)) (W.req (0≤(0:Int)∧(0:Int)<(r4.length:Int)) (W.bind (ref13_Ids.F ((rd zViolation r4 (0:Int)).Ids) ([(⟨#[118]⟩:BA),(⟨#[119]⟩:BA)]:List BA)) (fun r25=>W.req (r25=true→0≤(0:Int)∧(0:Int)<(r4.length:Int)) (W.req (r25=true→0≤(0:Int)∧(0:Int)<(r4.length:Int)) (W.req ((((r25&&(((rd zViolation r4 (0:Int)).Kind)==(2:Int)))&&((r8.length:Int)==(0:Int)))&&((r12.length:Int)==(0:Int)))=true→0≤(0:Int)∧(0:Int)<(r16.2.length:Int)) (W.req ((((r25&&(((rd zViolation r4 (0:Int)).Kind)==(2:Int)))&&((r8.length:Int)==(0:Int)))&&((r12.length:Int)==(0:Int)))=true→0≤(0:Int)∧(0:Int)<(r16.2.length:Int)) (W.ite (((r25&&(((rd zViolation r4 (0:Int)).Kind)==(2:Int)))&&((r8.length:Int)==(0:Int)))&&((r12.length:Int)==(0:Int))) (W.bind (ref13_Ids.F (rd ([]:List BA) r16.2 (0:Int)) ([(⟨#[118]⟩:BA),(⟨#[119]⟩:BA)]:List BA)) (fun r26=>W.ite (r26&&r19) (W.bind (law13_way.F (⟨#[118]⟩:BA) ([(⟨#[97]⟩:BA),(⟨#[98]⟩:BA)]:List BA)) (fun r27=>W.bind (law13_square.F ([r27]:List Object)) (fun r28=>W.bind (border_Free.F r28 (⟨(⟨(2:Int),(2:Int)⟩:Point),(⟨(9:Int),(0:Int)⟩:Point)⟩:Segment)) (fun r29=>(law13_head.c1) (!r29))))) ((law13_head.c1) false))) ((law13_head.c1) false))))))))))))))))))))))))))))
theorem law13_head.ok {Q:Bool→Prop} (hF:law13_head.F Q):Con Tryz.prog 10 [] [] (fun ta rs'=>∃ (r:Bool),Q r∧ta=.tv kBool r∧rs'=[]):=by
 refine Con.i Tryz.func10 Tryz.ntmps10 R R (fun C=>?_)
 unfold law13_head.F at hF
 refine At.seq (At.region (At.d R R R R (jd (x:=(.tv kBool false)) (jl _)) ?_))
 refine At.done (At.vh (At.seq (At.region (At.f R (jy R R R (os:=[.const (.string (⟨#[97]⟩:BA)),.const (.string (⟨#[98]⟩:BA))]) R sl_41 (xs:=([(⟨#[97]⟩:BA),(⟨#[98]⟩:BA)]:List BA)) (jf (vg _) (jf (vg _) jg)) R R) ?_))))
 rintro _ _ ⟨v1,rfl,rfl⟩
 refine At.freeze 0 7 R R ?_
 replace hF:=W.vm hF
 refine At.f R (jo R R (jq R en_27 (jf (vg _) (jf (ja R) jg))) [] R (law13_way.ok hF)) ?_
 rintro _ _ ⟨_,_,⟨r1,hF,rfl,rfl⟩,rfl,rfl⟩
 refine At.f R (jy R R R (os:=[.const (.string (⟨#[99]⟩:BA)),.const (.string (⟨#[100]⟩:BA))]) R sl_41 (xs:=([(⟨#[99]⟩:BA),(⟨#[100]⟩:BA)]:List BA)) (jf (vg _) (jf (vg _) jg)) R R) ?_
 rintro _ _ ⟨v2,rfl,rfl⟩
 refine At.freeze 0 9 R R ?_
 replace hF:=W.vm hF
 refine At.f R (jo R R (jq R en_27 (jf (vg _) (jf (ja R) jg))) [] R (law13_way.ok hF)) ?_
 rintro _ _ ⟨_,_,⟨r2,hF,rfl,rfl⟩,rfl,rfl⟩
 refine At.f R (jy R R R (os:=[.tmp 8,.tmp 10]) R sl_22 (xs:=([r1,r2]:List Object)) (jf (ja R) (jf (ja R) jg)) R R) ?_
 rintro _ _ ⟨v3,rfl,rfl⟩
 refine At.freeze 0 11 R R ?_
 replace hF:=W.vm hF
 refine At.f R (jo R R (jq R en_28 (jf (ja R) jg)) [] R (law13_square.ok hF)) ?_
 rintro _ _ ⟨_,_,⟨r3,hF,rfl,rfl⟩,rfl,rfl⟩
 replace hF:=W.vm hF
 refine At.f R (jo R R (jq R en_16 (jf (ja R) jg)) [] R (border_Check.ok hF)) ?_
 rintro _ _ ⟨_,_,⟨r4,v4,hF,rfl,rfl⟩,rfl,rfl⟩
 refine At.d R R R R (jd (x:=(.eq v4)) (ja R)) ?_
 refine At.done (At.vh (At.seq (At.region (At.f R (jy R R R (os:=[.const (.string (⟨#[97]⟩:BA)),.const (.string (⟨#[98]⟩:BA))]) R sl_41 (xs:=([(⟨#[97]⟩:BA),(⟨#[98]⟩:BA)]:List BA)) (jf (vg _) (jf (vg _) jg)) R R) ?_))))
 rintro _ _ ⟨v5,rfl,rfl⟩
 refine At.freeze 0 14 R R ?_
 replace hF:=W.vm hF
 refine At.f R (jo R R (jq R en_27 (jf (vg _) (jf (ja R) jg))) [] R (law13_way.ok hF)) ?_
 rintro _ _ ⟨_,_,⟨r5,hF,rfl,rfl⟩,rfl,rfl⟩
 refine At.f R (jy R R R (os:=[.const (.string (⟨#[98]⟩:BA)),.const (.string (⟨#[99]⟩:BA))]) R sl_41 (xs:=([(⟨#[98]⟩:BA),(⟨#[99]⟩:BA)]:List BA)) (jf (vg _) (jf (vg _) jg)) R R) ?_
 rintro _ _ ⟨v6,rfl,rfl⟩
 refine At.freeze 0 16 R R ?_
 replace hF:=W.vm hF
 refine At.f R (jo R R (jq R en_27 (jf (vg _) (jf (ja R) jg))) [] R (law13_way.ok hF)) ?_
 rintro _ _ ⟨_,_,⟨r6,hF,rfl,rfl⟩,rfl,rfl⟩
 refine At.f R (jy R R R (os:=[.tmp 15,.tmp 17]) R sl_22 (xs:=([r5,r6]:List Object)) (jf (ja R) (jf (ja R) jg)) R R) ?_
 rintro _ _ ⟨v7,rfl,rfl⟩
 refine At.freeze 0 18 R R ?_
 replace hF:=W.vm hF
 refine At.f R (jo R R (jq R en_28 (jf (ja R) jg)) [] R (law13_square.ok hF)) ?_
 rintro _ _ ⟨_,_,⟨r7,hF,rfl,rfl⟩,rfl,rfl⟩
 replace hF:=W.vm hF
 refine At.f R (jo R R (jq R en_16 (jf (ja R) jg)) [] R (border_Check.ok hF)) ?_
 rintro _ _ ⟨_,_,⟨r8,v8,hF,rfl,rfl⟩,rfl,rfl⟩
 refine At.d R R R R (jd (x:=(.eq v8)) (ja R)) ?_
 refine At.done (At.vh (At.seq (At.region (At.f R (jy R R R (os:=[.const (.string (⟨#[97]⟩:BA)),.const (.string (⟨#[98]⟩:BA)),.const (.string (⟨#[97]⟩:BA))]) R sl_41 (xs:=([(⟨#[97]⟩:BA),(⟨#[98]⟩:BA),(⟨#[97]⟩:BA)]:List BA)) (jf (vg _) (jf (vg _) (jf (vg _) jg))) R R) ?_))))
 rintro _ _ ⟨v9,rfl,rfl⟩
 refine At.freeze 0 21 R R ?_
 replace hF:=W.vm hF
 refine At.f R (jo R R (jq R en_27 (jf (vg _) (jf (ja R) jg))) [] R (law13_way.ok hF)) ?_
 rintro _ _ ⟨_,_,⟨r9,hF,rfl,rfl⟩,rfl,rfl⟩
 refine At.f R (jy R R R (os:=[.const (.string (⟨#[98]⟩:BA)),.const (.string (⟨#[97]⟩:BA))]) R sl_41 (xs:=([(⟨#[98]⟩:BA),(⟨#[97]⟩:BA)]:List BA)) (jf (vg _) (jf (vg _) jg)) R R) ?_
 rintro _ _ ⟨v10,rfl,rfl⟩
 refine At.freeze 0 23 R R ?_
 replace hF:=W.vm hF
 refine At.f R (jo R R (jq R en_27 (jf (vg _) (jf (ja R) jg))) [] R (law13_way.ok hF)) ?_
 rintro _ _ ⟨_,_,⟨r10,hF,rfl,rfl⟩,rfl,rfl⟩
 refine At.f R (jy R R R (os:=[.tmp 22,.tmp 24]) R sl_22 (xs:=([r9,r10]:List Object)) (jf (ja R) (jf (ja R) jg)) R R) ?_
 rintro _ _ ⟨v11,rfl,rfl⟩
 refine At.freeze 0 25 R R ?_
 replace hF:=W.vm hF
 refine At.f R (jo R R (jq R en_28 (jf (ja R) jg)) [] R (law13_square.ok hF)) ?_
 rintro _ _ ⟨_,_,⟨r11,hF,rfl,rfl⟩,rfl,rfl⟩
 replace hF:=W.vm hF
 refine At.f R (jo R R (jq R en_16 (jf (ja R) jg)) [] R (border_Check.ok hF)) ?_
 rintro _ _ ⟨_,_,⟨r12,v12,hF,rfl,rfl⟩,rfl,rfl⟩
 refine At.d R R R R (jd (x:=(.eq v12)) (ja R)) ?_
 refine At.done (At.vh (At.seq (At.region (At.f R (jy R R R (os:=[.const (.string (⟨#[97]⟩:BA)),.const (.string (⟨#[98]⟩:BA)),.const (.string (⟨#[97]⟩:BA))]) R sl_41 (xs:=([(⟨#[97]⟩:BA),(⟨#[98]⟩:BA),(⟨#[97]⟩:BA)]:List BA)) (jf (vg _) (jf (vg _) (jf (vg _) jg))) R R) ?_))))
 rintro _ _ ⟨v13,rfl,rfl⟩
 refine At.freeze 0 29 R R ?_
 replace hF:=W.vm hF
 refine At.f R (jo R R (jq R en_27 (jf (vg _) (jf (ja R) jg))) [] R (law13_way.ok hF)) ?_
 rintro _ _ ⟨_,_,⟨r13,hF,rfl,rfl⟩,rfl,rfl⟩
 refine At.f R (jy R R R (os:=[.const (.string (⟨#[98]⟩:BA)),.const (.string (⟨#[97]⟩:BA))]) R sl_41 (xs:=([(⟨#[98]⟩:BA),(⟨#[97]⟩:BA)]:List BA)) (jf (vg _) (jf (vg _) jg)) R R) ?_
 rintro _ _ ⟨v14,rfl,rfl⟩
 refine At.freeze 0 31 R R ?_
 replace hF:=W.vm hF
 refine At.f R (jo R R (jq R en_27 (jf (vg _) (jf (ja R) jg))) [] R (law13_way.ok hF)) ?_
 rintro _ _ ⟨_,_,⟨r14,hF,rfl,rfl⟩,rfl,rfl⟩
 refine At.f R (jy R R R (os:=[.tmp 30,.tmp 32]) R sl_22 (xs:=([r13,r14]:List Object)) (jf (ja R) (jf (ja R) jg)) R R) ?_
 rintro _ _ ⟨v15,rfl,rfl⟩
 refine At.freeze 0 33 R R ?_
 replace hF:=W.vm hF
 refine At.f R (jo R R (jq R en_28 (jf (ja R) jg)) [] R (law13_square.ok hF)) ?_
 rintro _ _ ⟨_,_,⟨r15,hF,rfl,rfl⟩,rfl,rfl⟩
 replace hF:=W.vm hF
 refine At.f R (jo R R (jq R en_12 (jf (ja R) jg)) [] R (border_Segments.ok hF)) ?_
 rintro _ _ ⟨_,_,⟨r16,v16,v17,hF,rfl,rfl⟩,rfl,rfl⟩
 refine At.d R R R R (jb (x:=(.tup2 (.eq v16) (.eq v17))) (ja R)) ?_
 refine At.d R R R R (does_extract20 (ja R)) ?_
 refine At.d R R R R (does_extract21 (ja R)) ?_
 refine At.d R R R R (jd (x:=(.eq v16)) (ja R)) ?_
 refine At.d R R R R (jd (x:=(.eq v17)) (ja R)) ?_
 refine At.done (At.vh (At.seq (At.seq (At.region (At.d R R R R (jb (x:=(.eq v4)) (ja R)) ?_)))))
 refine At.d R R R R (does_len_row (ja R) 13 R Tryz.underlying33) ?_
 refine At.d R R R R (jk (ja R) (ji _ _) bin_neq) ?_
 refine At.d R R R R (jb (x:=(.tv kBool ((r4.length:Int) != (1:Int)))) (ja R)) ?_
 refine At.vj R R R R (jv R) R (fun hg1=>(jb (x:=(.eq v16)) (ja R))) ?_
 refine At.vj R R R R (jv R) R (fun hg2=>(does_len_row (jh R hg2) 0 R Tryz.underlying27)) ?_
 refine At.vj R R R R (jv R) R (fun hg3=>(jk (jh R hg3) (ji _ _) bin_neq)) ?_
 refine At.d R R R R (jm (ja R) (jl _) (ja R) pick_or) ?_
 refine At.d R R R R (jb (x:=(.tv kBool (((r4.length:Int) != (1:Int))||((r16.1.length:Int) != (1:Int))))) (ja R)) ?_
 refine At.vj R R R R (jv R) R (fun hg4=>(jb (x:=(.eq v17)) (ja R))) ?_
 refine At.vj R R R R (jv R) R (fun hg5=>(does_len_row (jh R hg5) 1 R Tryz.underlying28)) ?_
 refine At.vj R R R R (jv R) R (fun hg6=>(jk (jh R hg6) (ji _ _) bin_neq)) ?_
 refine At.d R R R R (jm (ja R) (jl _) (ja R) pick_or) ?_
 refine At.done (At.vh ?_)
 refine At.cond (ja R) (fun hb1=>?_) (fun hb1=>?_)
 ·replace hF:=W.ite_t hb1 hF
  refine At.seq (At.region (At.d R R R R (jd (x:=(.tv kBool false)) (jl _)) ?_))
  refine At.done (At.vh (At.ret (At.vi ?_)))
  exact At.j rfl (rv_tmp rfl) [] rfl ⟨false,hF,rfl,rfl⟩
 ·replace hF:=W.ite_f hb1 hF
  refine At.skip (At.vh (At.seq (At.region (At.f R (jy R R R (os:=[.const (.string (⟨#[97]⟩:BA)),.const (.string (⟨#[98]⟩:BA))]) R sl_41 (xs:=([(⟨#[97]⟩:BA),(⟨#[98]⟩:BA)]:List BA)) (jf (vg _) (jf (vg _) jg)) R R) ?_))))
  rintro _ _ ⟨v18,rfl,rfl⟩
  refine At.freeze 0 51 R R ?_
  replace hF:=W.vm hF
  refine At.f R (jo R R (jq R en_27 (jf (vg _) (jf (ja R) jg))) [] R (law13_way.ok hF)) ?_
  rintro _ _ ⟨_,_,⟨r17,hF,rfl,rfl⟩,rfl,rfl⟩
  refine At.f R (jy R R R (os:=[.tmp 52]) R sl_22 (xs:=([r17]:List Object)) (jf (ja R) jg) R R) ?_
  rintro _ _ ⟨v19,rfl,rfl⟩
  refine At.freeze 0 53 R R ?_
  replace hF:=W.vm hF
  refine At.f R (jo R R (jq R en_28 (jf (ja R) jg)) [] R (law13_square.ok hF)) ?_
  rintro _ _ ⟨_,_,⟨r18,hF,rfl,rfl⟩,rfl,rfl⟩
  refine At.d R R R R (jz (jr (ji _ _) (jr (ji _ _) parts_nil)) zr_37 bd_37 R (fills_cons R sub_Point_0 (fills_cons R sub_Point_1 fills_nil))) ?_
  refine At.d R R R R (jz (jr (ji _ _) parts_nil) zr_37 bd_37 R (fills_cons R sub_Point_0 fills_nil)) ?_
  refine At.d R R R R (jz (jr (ja R) (jr (ja R) parts_nil)) zr_39 bd_39 R (fills_cons R Ja (fills_cons R Jb fills_nil))) ?_
  replace hF:=W.vm hF
  refine At.f R (jn R R jp (jq R en_18 (jf (ja R) (jf (ja R) jg))) (border_Free.ok hF) (by rintro _ _ ⟨r,_,rfl,_⟩;exact vl)) ?_
  rintro _ _ ⟨_,_,⟨r19,hF,rfl,rfl⟩,rfl,rfl⟩
  refine At.d R R R R (jd (x:=(.tv kBool r19)) (ja R)) ?_
  refine At.done (At.vh ?_)
  refine At.cut (fun rs L=>∃ (t1:Bool),law13_head.c1 t1 Q∧rs=[]∧L=mkL [(0,(.tv kBool t1))]) ?_ ?_
  ·refine At.region (At.d R R R R (jb (x:=(.eq v4)) (ja R)) ?_)
   obtain ⟨hq7,hF⟩:=hF
   refine At.d R R R R (does_idx_row (ja R) 15 R (ji _ _) Tryz.underlying33 ty_43 hq7) ?_
   refine At.d R R R R (does_field_elem (ja R) fa_43_2) ?_
   obtain ⟨hq8,hF⟩:=hF
   refine At.d R R R R (Jc (ja R) 15 R (0:Int) 2 R zViolation hq8 sub_Violation_2 ty_41) ?_
   refine At.f R (jy R R R (os:=[.const (.string (⟨#[118]⟩:BA)),.const (.string (⟨#[119]⟩:BA))]) R sl_41 (xs:=([(⟨#[118]⟩:BA),(⟨#[119]⟩:BA)]:List BA)) (jf (vg _) (jf (vg _) jg)) R R) ?_
   rintro _ _ ⟨v24,rfl,rfl⟩
   replace hF:=W.vm hF
   refine At.f R (jn R R (lends_row 0 63 R R jp) (jq R en_29 (jf (ja R) (jf (ja R) jg))) (ref13_Ids.ok hF) (by rintro _ _ ⟨r,_,rfl,_⟩;exact vl)) ?_
   rintro _ _ ⟨_,_,⟨r25,hF,rfl,rfl⟩,rfl,rfl⟩
   refine At.d R R R R (jb (x:=(.tv kBool r25)) (ja R)) ?_
   refine At.vj R R R R (ju R) R (fun hg22=>(jb (x:=(.eq v4)) (ja R))) ?_
   obtain ⟨hq9,hF⟩:=hF
   refine At.vj R R R R (ju R) R (fun hg23=>(does_idx_row (jh R hg23) 16 R (ji _ _) Tryz.underlying33 ty_43 (hq9 hg23))) ?_
   refine At.vj R R R R (ju R) R (fun hg24=>(does_field_elem (jh R hg24) fa_43_1)) ?_
   obtain ⟨hq10,hF⟩:=hF
   refine At.vj R R R R (ju R) R (fun hg25=>(Jc (jh R hg25) 16 R (0:Int) 1 R zViolation (hq10 hg25) sub_Violation_1 ty_3)) ?_
   refine At.vj R R R R (ju R) R (fun hg26=>(jk (jh R hg26) (ji _ _) bin_eql)) ?_
   refine At.d R R R R (jm (ja R) (ja R) (jl _) ve) ?_
   refine At.d R R R R (jb (x:=(.tv kBool (r25&&(((rd zViolation r4 (0:Int)).Kind)==(2:Int))))) (ja R)) ?_
   refine At.vj R R R R (ju R) R (fun hg27=>(jb (x:=(.eq v8)) (ja R))) ?_
   refine At.vj R R R R (ju R) R (fun hg28=>(does_len_row (jh R hg28) 12 R Tryz.underlying33)) ?_
   refine At.vj R R R R (ju R) R (fun hg29=>(jk (jh R hg29) (ji _ _) bin_eql)) ?_
   refine At.d R R R R (jm (ja R) (ja R) (jl _) ve) ?_
   refine At.d R R R R (jb (x:=(.tv kBool ((r25&&(((rd zViolation r4 (0:Int)).Kind)==(2:Int)))&&((r8.length:Int)==(0:Int))))) (ja R)) ?_
   refine At.vj R R R R (ju R) R (fun hg30=>(jb (x:=(.eq v12)) (ja R))) ?_
   refine At.vj R R R R (ju R) R (fun hg31=>(does_len_row (jh R hg31) 8 R Tryz.underlying33)) ?_
   refine At.vj R R R R (ju R) R (fun hg32=>(jk (jh R hg32) (ji _ _) bin_eql)) ?_
   refine At.d R R R R (jm (ja R) (ja R) (jl _) ve) ?_
   refine At.d R R R R (jb (x:=(.tv kBool (((r25&&(((rd zViolation r4 (0:Int)).Kind)==(2:Int)))&&((r8.length:Int)==(0:Int)))&&((r12.length:Int)==(0:Int))))) (ja R)) ?_
   refine At.vj R R R R (ju R) R (fun hg33=>(jb (x:=(.eq v17)) (ja R))) ?_
   obtain ⟨hq11,hF⟩:=hF
   refine At.vj R R R R (ju R) R (fun hg34=>(does_idx_row (jh R hg34) 4 R (ji _ _) Tryz.underlying28 ty_41 (hq11 hg34))) ?_
   obtain ⟨hq12,hF⟩:=hF
   refine At.vj R R R R (ju R) R (fun hg35=>(Jc (jh R hg35) 4 R (0:Int) 0 R ([]:List BA) (hq12 hg35) (Sub.self (kSlice kStr)) ty_41)) ?_
   refine At.split (((r25&&(((rd zViolation r4 (0:Int)).Kind)==(2:Int)))&&((r8.length:Int)==(0:Int)))&&((r12.length:Int)==(0:Int))) (fun hb4=>?_) (fun hb4=>?_)
   ·replace hF:=W.ite_t hb4 hF
    refine At.whenT 66 R (and_l (and_l (and_l hb4))) ?_
    refine At.whenT 67 R (and_l (and_l (and_l hb4))) ?_
    refine At.whenT 68 R (and_l (and_l (and_l hb4))) ?_
    refine At.whenT 69 R (and_l (and_l (and_l hb4))) ?_
    refine At.whenT 70 R (and_l (and_l (and_l hb4))) ?_
    refine At.whenT 73 R (and_l (and_l hb4)) ?_
    refine At.whenT 74 R (and_l (and_l hb4)) ?_
    refine At.whenT 75 R (and_l (and_l hb4)) ?_
    refine At.whenT 78 R (and_l hb4) ?_
    refine At.whenT 79 R (and_l hb4) ?_
    refine At.whenT 80 R (and_l hb4) ?_
    refine At.whenT 83 R hb4 ?_
    refine At.whenT 84 R hb4 ?_
    refine At.whenT 85 R hb4 ?_
    refine At.effT R R (ju R) hb4 (jy R R R (os:=[.const (.string (⟨#[118]⟩:BA)),.const (.string (⟨#[119]⟩:BA))]) R sl_41 (xs:=([(⟨#[118]⟩:BA),(⟨#[119]⟩:BA)]:List BA)) (jf (vg _) (jf (vg _) jg)) R R) ?_
    rintro _ _ ⟨v25,rfl,rfl⟩
    replace hF:=W.vm hF
    refine At.effT R R (ju R) hb4 (jn R R (lends_row 0 86 R R jp) (jq R en_29 (jf (ja R) (jf (ja R) jg))) (ref13_Ids.ok hF) (by rintro _ _ ⟨r,_,rfl,_⟩;exact vl)) ?_
    rintro _ _ ⟨_,_,⟨r26,hF,rfl,rfl⟩,rfl,rfl⟩
    refine At.d R R R R (does_pickT (ja R) hb4 (ja R)) ?_
    refine At.d R R R R (jb (x:=(.tv kBool r26)) (ja R)) ?_
    refine At.vj R R R R (ju R) R (fun hg36=>(jb (x:=(.tv kBool r19)) (ja R))) ?_
    refine At.d R R R R (jm (ja R) (ja R) (jl _) ve) ?_
    refine At.d R R R R (jb (x:=(.tv kBool (r26&&r19))) (ja R)) ?_
    refine At.split (r26&&r19) (fun hb5=>?_) (fun hb5=>?_)
    ·replace hF:=W.ite_t hb5 hF
     refine At.whenT 90 R (and_l hb5) ?_
     refine At.effT R R (ju R) hb5 (jy R R R (os:=[.const (.string (⟨#[97]⟩:BA)),.const (.string (⟨#[98]⟩:BA))]) R sl_41 (xs:=([(⟨#[97]⟩:BA),(⟨#[98]⟩:BA)]:List BA)) (jf (vg _) (jf (vg _) jg)) R R) ?_
     rintro _ _ ⟨v26,rfl,rfl⟩
     refine At.freeze 0 93 R R ?_
     replace hF:=W.vm hF
     refine At.effT R R (ju R) hb5 (jo R R (jq R en_27 (jf (vg _) (jf (ja R) jg))) [] R (law13_way.ok hF)) ?_
     rintro _ _ ⟨_,_,⟨r27,hF,rfl,rfl⟩,rfl,rfl⟩
     refine At.effT R R (ju R) hb5 (jy R R R (os:=[.tmp 94]) R sl_22 (xs:=([r27]:List Object)) (jf (ja R) jg) R R) ?_
     rintro _ _ ⟨v27,rfl,rfl⟩
     refine At.freeze 0 95 R R ?_
     replace hF:=W.vm hF
     refine At.effT R R (ju R) hb5 (jo R R (jq R en_28 (jf (ja R) jg)) [] R (law13_square.ok hF)) ?_
     rintro _ _ ⟨_,_,⟨r28,hF,rfl,rfl⟩,rfl,rfl⟩
     refine At.doesT R R (ju R) hb5 R R R (jz (jr (ji _ _) (jr (ji _ _) parts_nil)) zr_37 bd_37 R (fills_cons R sub_Point_0 (fills_cons R sub_Point_1 fills_nil))) ?_
     refine At.doesT R R (ju R) hb5 R R R (jz (jr (ji _ _) parts_nil) zr_37 bd_37 R (fills_cons R sub_Point_0 fills_nil)) ?_
     refine At.doesT R R (ju R) hb5 R R R (jz (jr (ja R) (jr (ja R) parts_nil)) zr_39 bd_39 R (fills_cons R Ja (fills_cons R Jb fills_nil))) ?_
     replace hF:=W.vm hF
     refine At.effT R R (ju R) hb5 (jn R R jp (jq R en_18 (jf (ja R) (jf (ja R) jg))) (border_Free.ok hF) (by rintro _ _ ⟨r,_,rfl,_⟩;exact vl)) ?_
     rintro _ _ ⟨_,_,⟨r29,hF,rfl,rfl⟩,rfl,rfl⟩
     refine At.doesT R R (ju R) hb5 R R R (does_not (ja R)) ?_
     refine At.d R R R R (does_pickT (ja R) hb5 (ja R)) ?_
     refine At.d R R R R (jd (x:=(.tv kBool (!r29))) (ja R)) ?_
     refine At.done (At.vh ?_)
     refine At.w [] R [(0,(.tv kBool (!r29)))] ⟨R,trivial⟩ (At.r ⟨(!r29),hF,R,R⟩)
    ·replace hF:=W.ite_f hb5 hF
     refine At.skipG R R (ju R) hb5 R R ?_
     refine At.skipG R R (ju R) hb5 R R ?_
     refine At.skipG R R (ju R) hb5 R R ?_
     refine At.skipG R R (ju R) hb5 R R ?_
     refine At.skipG R R (ju R) hb5 R R ?_
     refine At.skipG R R (ju R) hb5 R R ?_
     refine At.skipG R R (ju R) hb5 R R ?_
     refine At.skipG R R (ju R) hb5 R R ?_
     refine At.skipG R R (ju R) hb5 R R ?_
     refine At.d R R R R (does_pickF (ja R) hb5 (jl _)) ?_
     refine At.d R R R R (jd (x:=(.tv kBool false)) (ja R)) ?_
     refine At.done (At.vh ?_)
     refine At.w [] R [(0,(.tv kBool false))] ⟨R,trivial⟩ (At.r ⟨false,hF,R,R⟩)
   ·replace hF:=W.ite_f hb4 hF
    refine At.skipG R R (ju R) hb4 R R ?_
    refine At.skipG R R (ju R) hb4 R R ?_
    refine At.d R R R R (does_pickF (ja R) hb4 (jl _)) ?_
    refine At.d R R R R (jb (x:=(.tv kBool false)) (ja R)) ?_
    refine At.skipG R R (ju R) R R R ?_
    refine At.d R R R R (does_pickF (ja R) R (jl _)) ?_
    refine At.d R R R R (jb (x:=(.tv kBool false)) (ja R)) ?_
    refine At.skipG R R (ju R) R R R ?_
    refine At.skipG R R (ju R) R R R ?_
    refine At.skipG R R (ju R) R R R ?_
    refine At.skipG R R (ju R) R R R ?_
    refine At.skipG R R (ju R) R R R ?_
    refine At.skipG R R (ju R) R R R ?_
    refine At.skipG R R (ju R) R R R ?_
    refine At.skipG R R (ju R) R R R ?_
    refine At.skipG R R (ju R) R R R ?_
    refine At.d R R R R (does_pickF (ja R) R (jl _)) ?_
    refine At.d R R R R (jd (x:=(.tv kBool false)) (ja R)) ?_
    refine At.done (At.vh ?_)
    refine At.w [] R [(0,(.tv kBool false))] ⟨R,trivial⟩ (At.r ⟨false,hF,R,R⟩)
  ·rintro _ _ ⟨t1,hF,rfl,rfl⟩
   unfold law13_head.c1 at hF
   refine At.ret ?_
   exact At.j rfl (rv_tmp rfl) [] rfl ⟨t1,hF,rfl,rfl⟩
def law13_segments.c1:W Bool:=W.ret true
def law13_segments.l1 (a1:(List Segment)) (b1:(List Segment)) (x1:(List (List BA))) (y1:(List (List BA))) (K1:W Bool) (A1:Int→W Bool) (i6:Int):W Bool:=W.ite (decide (i6<(a1.length:Int))) (W.req (0≤i6∧i6<(a1.length:Int)) (W.req (0≤i6∧i6<(b1.length:Int)) (W.req ((!(!(eq_Segment (rd zSegment a1 i6) (rd zSegment b1 i6))))=true→0≤i6∧i6<(x1.length:Int)) (W.req ((!(!(eq_Segment (rd zSegment a1 i6) (rd zSegment b1 i6))))=true→0≤i6∧i6<(y1.length:Int)) (W.bind (W.ite (!(!(eq_Segment (rd zSegment a1 i6) (rd zSegment b1 i6)))) (ref13_Ids.F (rd ([]:List BA) x1 i6) (rd ([]:List BA) y1 i6)) (W.ret false)) (fun r5=>W.ite ((!(eq_Segment (rd zSegment a1 i6) (rd zSegment b1 i6)))||(!r5)) (W.ret false) (A1 (w64 (i6+(1:Int)))))))))) (K1)
def law13_segments.F (a1:(List Segment)) (b1:(List Segment)) (x1:(List (List BA))) (y1:(List (List BA))):W Bool:=W.ite ((((a1.length:Int) != (b1.length:Int))||((x1.length:Int) != (y1.length:Int)))||((a1.length:Int) != (x1.length:Int))) (W.ret false) (W.ex fun n=>W.iter1 (law13_segments.l1 a1 b1 x1 y1 (law13_segments.c1)) n (0:Int))
theorem law13_segments.ok {a1:(List Segment)} {b1:(List Segment)} {x1:(List (List BA))} {y1:(List (List BA))} {Q:Bool→Prop} (hF:law13_segments.F a1 b1 x1 y1 Q):Con Tryz.prog 14 [.tv (kSlice kSegment) a1,.tv (kSlice kSegment) b1,.tv (kSlice (kSlice kStr)) x1,.tv (kSlice (kSlice kStr)) y1] [] (fun ta rs'=>∃ (r:Bool),Q r∧ta=.tv kBool r∧rs'=[]):=by
 refine Con.i Tryz.func14 Tryz.ntmps14 R R (fun C=>?_)
 unfold law13_segments.F at hF
 refine At.seq (At.region (At.d R R R R (jd (x:=(.tv kBool false)) (jl _)) ?_))
 refine At.done (At.vh (At.seq (At.seq (At.region (At.d R R R R (jb (x:=(.tv (kSlice kSegment) a1)) (ja R)) ?_)))))
 refine At.d R R R R (js (ja R) Tryz.underlying27) ?_
 refine At.d R R R R (jb (x:=(.tv (kSlice kSegment) b1)) (ja R)) ?_
 refine At.d R R R R (js (ja R) Tryz.underlying27) ?_
 refine At.d R R R R (jk (ja R) (ja R) bin_neq) ?_
 refine At.d R R R R (jb (x:=(.tv kBool ((a1.length:Int) != (b1.length:Int)))) (ja R)) ?_
 refine At.vj R R R R (jv R) R (fun hg1=>(jb (x:=(.tv (kSlice (kSlice kStr)) x1)) (ja R))) ?_
 refine At.vj R R R R (jv R) R (fun hg2=>(js (jh R hg2) Tryz.underlying28)) ?_
 refine At.vj R R R R (jv R) R (fun hg3=>(jb (x:=(.tv (kSlice (kSlice kStr)) y1)) (ja R))) ?_
 refine At.vj R R R R (jv R) R (fun hg4=>(js (jh R hg4) Tryz.underlying28)) ?_
 refine At.vj R R R R (jv R) R (fun hg5=>(jk (jh R hg5) (jh R hg5) bin_neq)) ?_
 refine At.d R R R R (jm (ja R) (jl _) (ja R) pick_or) ?_
 refine At.d R R R R (jb (x:=(.tv kBool (((a1.length:Int) != (b1.length:Int))||((x1.length:Int) != (y1.length:Int))))) (ja R)) ?_
 refine At.vj R R R R (jv R) R (fun hg6=>(jb (x:=(.tv (kSlice kSegment) a1)) (ja R))) ?_
 refine At.vj R R R R (jv R) R (fun hg7=>(js (jh R hg7) Tryz.underlying27)) ?_
 refine At.vj R R R R (jv R) R (fun hg8=>(jb (x:=(.tv (kSlice (kSlice kStr)) x1)) (ja R))) ?_
 refine At.vj R R R R (jv R) R (fun hg9=>(js (jh R hg9) Tryz.underlying28)) ?_
 refine At.vj R R R R (jv R) R (fun hg10=>(jk (jh R hg10) (jh R hg10) bin_neq)) ?_
 refine At.d R R R R (jm (ja R) (jl _) (ja R) pick_or) ?_
 refine At.done (At.vh ?_)
 refine At.cond (ja R) (fun hb1=>?_) (fun hb1=>?_)
 ·replace hF:=W.ite_t hb1 hF
  refine At.seq (At.region (At.d R R R R (jd (x:=(.tv kBool false)) (jl _)) ?_))
  refine At.done (At.vh (At.ret (At.vi ?_)))
  exact At.j rfl (rv_tmp rfl) [] rfl ⟨false,hF,rfl,rfl⟩
 ·replace hF:=W.ite_f hb1 hF
  refine At.skip (At.vh ?_)
  refine At.cut (fun rs L=>∃ _:Unit,law13_segments.c1 Q∧rs=[]∧L=mkL []) ?_ ?_
  ·refine At.seq (At.region (At.d R R R R (jd (x:=(.tv (kInt .i64) (0:Int))) (ji _ _)) ?_))
   refine At.done (At.vh (At.block ?_))
   obtain ⟨n1,hF⟩:=hF
   refine At.w [] R [(0,(.tv (kSlice kSegment) a1)),(1,(.tv (kSlice kSegment) b1)),(2,(.tv (kSlice (kSlice kStr)) x1)),(3,(.tv (kSlice (kSlice kStr)) y1)),(9,(.tv (kInt .i64) (0:Int)))] ⟨R,R,R,R,R,trivial⟩ ?_
   refine At.loop (fun m rs L=>∃ (i6:Int),W.iter1 (law13_segments.l1 a1 b1 x1 y1 (law13_segments.c1)) m i6 Q∧rs=[]∧L=mkL [(0,(.tv (kSlice kSegment) a1)),(1,(.tv (kSlice kSegment) b1)),(2,(.tv (kSlice (kSlice kStr)) x1)),(3,(.tv (kSlice (kSlice kStr)) y1)),(9,(.tv (kInt .i64) i6))]) ?_ ?_ (m:=n1) ⟨(0:Int),hF,R,R⟩
   ·rintro rs L ⟨_,hF,_,_⟩;exact hF
   ·rintro m1 _ _ ⟨i6,hF,rfl,rfl⟩
    replace hF:=W.iter1_s hF
    unfold law13_segments.l1 at hF
    refine At.seq (At.seq (At.region (At.d R R R R (jb (x:=(.tv (kInt .i64) i6)) (ja R)) ?_)))
    refine At.d R R R R (jb (x:=(.tv (kSlice kSegment) a1)) (ja R)) ?_
    refine At.d R R R R (js (ja R) Tryz.underlying27) ?_
    refine At.d R R R R (jk (ja R) (ja R) vd) ?_
    refine At.done (At.vh ?_)
    refine At.cond (ja R) (fun hb10=>?_) (fun hb10=>?_)
    ·replace hF:=W.ite_t hb10 hF
     refine At.skip (At.vh (At.seq (At.block (At.seq ?_))))
     refine At.draw mixed [] R [] (fun φ w hgd=>?_)
     obtain ⟨hq17,hF⟩:=hF
     obtain ⟨hq18,hF⟩:=hF
     obtain ⟨hq19,hF⟩:=hF
     obtain ⟨hq20,hF⟩:=hF
     replace hF:=W.vm hF
     refine AtH.take [] hgd 0 R R R R (D':=#[Y,N,N,N,N,N,N,N,N,N,N,N,N,N,N,N,N,N,N,N,N]) (by kernel_rfl) (fun _ _ _ _ h=>h) R (jb (x:=(.tv (kSlice kSegment) a1)) (ja R)) ?_
     refine AtH.take [] hgd 1 R R R R (D':=#[Y,Y,N,N,N,N,N,N,N,N,N,N,N,N,N,N,N,N,N,N,N]) (by kernel_rfl) (fun _ _ _ _ h=>h) R (jb (x:=(.tv (kInt .i64) i6)) (ja R)) ?_
     refine AtH.take [] hgd 2 R R R R (D':=#[Y,Y,Y,N,N,N,N,N,N,N,N,N,N,N,N,N,N,N,N,N,N]) (by kernel_rfl) (fun _ _ _ _ h=>h) R (vf zSegment (ja R) (ja R) Tryz.underlying27 ty_39 hq17) ?_
     refine AtH.take [] hgd 3 R R R R (D':=#[Y,Y,Y,Y,N,N,N,N,N,N,N,N,N,N,N,N,N,N,N,N,N]) (by kernel_rfl) (fun _ _ _ _ h=>h) R (vq (K:=kSegment) (ja R) ty_39) ?_
     refine AtH.take [] hgd 4 R R R R (D':=#[Y,Y,Y,Y,Y,N,N,N,N,N,N,N,N,N,N,N,N,N,N,N,N]) (by kernel_rfl) (fun _ _ _ _ h=>h) R (jb (x:=(.tv (kSlice kSegment) b1)) (ja R)) ?_
     refine AtH.take [] hgd 5 R R R R (D':=#[Y,Y,Y,Y,Y,Y,N,N,N,N,N,N,N,N,N,N,N,N,N,N,N]) (by kernel_rfl) (fun _ _ _ _ h=>h) R (jb (x:=(.tv (kInt .i64) i6)) (ja R)) ?_
     refine AtH.take [] hgd 6 R R R R (D':=#[Y,Y,Y,Y,Y,Y,Y,N,N,N,N,N,N,N,N,N,N,N,N,N,N]) (by kernel_rfl) (fun _ _ _ _ h=>h) R (vf zSegment (ja R) (ja R) Tryz.underlying27 ty_39 hq18) ?_
     refine AtH.take [] hgd 7 R R R R (D':=#[Y,Y,Y,Y,Y,Y,Y,Y,N,N,N,N,N,N,N,N,N,N,N,N,N]) (by kernel_rfl) (fun _ _ _ _ h=>h) R (vq (K:=kSegment) (ja R) ty_39) ?_
     refine AtH.take [] hgd 8 R R R R (D':=#[Y,Y,Y,Y,Y,Y,Y,Y,Y,N,N,N,N,N,N,N,N,N,N,N,N]) (by kernel_rfl) (fun _ _ _ _ h=>h) R (jk (ja R) (ja R) (bin_ne eqty_39)) ?_
     refine AtH.take [] hgd 9 R R R R (D':=#[Y,Y,Y,Y,Y,Y,Y,Y,Y,Y,N,N,N,N,N,N,N,N,N,N,N]) (by kernel_rfl) (fun _ _ _ _ h=>h) R (jb (x:=(.tv kBool (!(eq_Segment (rd zSegment a1 i6) (rd zSegment b1 i6))))) (ja R)) ?_
     refine AtH.vk [] hgd 10 R R R (jv R) R R (D':=#[Y,Y,Y,Y,Y,Y,Y,Y,Y,Y,Y,N,N,N,N,N,N,N,N,N,N]) (by kernel_rfl) (fun _ _ _ _ h=>h) R (fun hg96=>(jb (x:=(.tv (kSlice (kSlice kStr)) x1)) (ja R))) ?_
     refine AtH.vk [] hgd 11 R R R (jv R) R R (D':=#[Y,Y,Y,Y,Y,Y,Y,Y,Y,Y,Y,Y,N,N,N,N,N,N,N,N,N]) (by kernel_rfl) (fun _ _ _ _ h=>h) R (fun hg97=>(jb (x:=(.tv (kInt .i64) i6)) (ja R))) ?_
     refine AtH.vk [] hgd 12 R R R (jv R) R R (D':=#[Y,Y,Y,Y,Y,Y,Y,Y,Y,Y,Y,Y,Y,N,N,N,N,N,N,N,N]) (by kernel_rfl) (fun _ _ _ _ h=>h) R (fun hg98=>(vf ([]:List BA) (jh R hg98) (jh R hg98) Tryz.underlying28 ty_41 (hq19 hg98))) ?_
     refine AtH.vk [] hgd 13 R R R (jv R) R R (D':=#[Y,Y,Y,Y,Y,Y,Y,Y,Y,Y,Y,Y,Y,Y,N,N,N,N,N,N,N]) (by kernel_rfl) (fun _ _ _ _ h=>h) R (fun hg99=>(vq (K:=(kSlice kStr)) (jh R hg99) ty_41)) ?_
     refine AtH.vk [] hgd 14 R R R (jv R) R R (D':=#[Y,Y,Y,Y,Y,Y,Y,Y,Y,Y,Y,Y,Y,Y,Y,N,N,N,N,N,N]) (by kernel_rfl) (fun _ _ _ _ h=>h) R (fun hg100=>(jb (x:=(.tv (kSlice (kSlice kStr)) y1)) (ja R))) ?_
     refine AtH.vk [] hgd 15 R R R (jv R) R R (D':=#[Y,Y,Y,Y,Y,Y,Y,Y,Y,Y,Y,Y,Y,Y,Y,Y,N,N,N,N,N]) (by kernel_rfl) (fun _ _ _ _ h=>h) R (fun hg101=>(jb (x:=(.tv (kInt .i64) i6)) (ja R))) ?_
     refine AtH.vk [] hgd 16 R R R (jv R) R R (D':=#[Y,Y,Y,Y,Y,Y,Y,Y,Y,Y,Y,Y,Y,Y,Y,Y,Y,N,N,N,N]) (by kernel_rfl) (fun _ _ _ _ h=>h) R (fun hg102=>(vf ([]:List BA) (jh R hg102) (jh R hg102) Tryz.underlying28 ty_41 (hq20 hg102))) ?_
     refine AtH.vk [] hgd 17 R R R (jv R) R R (D':=#[Y,Y,Y,Y,Y,Y,Y,Y,Y,Y,Y,Y,Y,Y,Y,Y,Y,Y,N,N,N]) (by kernel_rfl) (fun _ _ _ _ h=>h) R (fun hg103=>(vq (K:=(kSlice kStr)) (jh R hg103) ty_41)) ?_
     refine AtH.all1 18 (by kernel_rfl) ?_
     refine AtH.effG [] R R R R R R R (jv R) (D':=#[Y,Y,Y,Y,Y,Y,Y,Y,Y,Y,Y,Y,Y,Y,Y,Y,Y,Y,Y,N,N]) (by kernel_rfl) (by kernel_rfl) hF (fun r=>.tv kBool r) (fun _=>vl) (fun hg104 hF=>eff_of (jn R R jp (jq R en_29 (jf (jh R hg104) (jf (jh R hg104) jg))) (ref13_Ids.ok hF) (by rintro _ _ ⟨r,_,rfl,_⟩;exact vl)) (by rintro _ _ ⟨_,_,⟨r,hF,rfl,rfl⟩,rfl,rfl⟩;exact ⟨r,hF,R,R⟩)) (fun r5 hF=>?_)
     refine AtH.vk [] hgd 19 R R R (jv R) R R (D':=#[Y,Y,Y,Y,Y,Y,Y,Y,Y,Y,Y,Y,Y,Y,Y,Y,Y,Y,Y,Y,N]) (by kernel_rfl) (fun _ _ _ _ h=>h) R (fun hg105=>(does_not (jh R hg105))) ?_
     refine AtH.take [] hgd 20 R R R R (D':=#[Y,Y,Y,Y,Y,Y,Y,Y,Y,Y,Y,Y,Y,Y,Y,Y,Y,Y,Y,Y,Y]) (by kernel_rfl) (fun _ _ _ _ h=>h) R (jm (ja R) (jl _) (ja R) pick_or) ?_
     refine AtH.done (by kernel_rfl) ?_
     refine At.vh ?_
     refine At.cond (ja R) (fun hb11=>?_) (fun hb11=>?_)
     ·replace hF:=W.ite_t hb11 hF
      refine At.seq (At.region (At.d R R R R (jd (x:=(.tv kBool false)) (jl _)) ?_))
      refine At.done (At.vh (At.ret ?_))
      refine At.q ?_
      refine At.vi (At.vi ?_)
      refine At.q ?_
      refine At.vi ?_
      exact At.j rfl (rv_tmp rfl) [] rfl ⟨false,hF,rfl,rfl⟩
     ·replace hF:=W.ite_f hb11 hF
      refine At.skip ?_
      refine At.n ?_
      refine At.vh (At.region (At.d R R R R (jb (x:=(.tv (kInt .i64) i6)) (ja R)) ?_))
      refine At.d R R R R (jk (ja R) (ji _ _) vc) ?_
      refine At.d R R R R (jd (x:=(.tv (kInt .i64) (w64 (i6+(1:Int))))) (ja R)) ?_
      refine At.done (At.vh ?_)
      refine At.w [] R [(0,(.tv (kSlice kSegment) a1)),(1,(.tv (kSlice kSegment) b1)),(2,(.tv (kSlice (kSlice kStr)) x1)),(3,(.tv (kSlice (kSlice kStr)) y1)),(9,(.tv (kInt .i64) (w64 (i6+(1:Int)))))] ⟨R,R,R,R,R,trivial⟩ (At.r ⟨(w64 (i6+(1:Int))),hF,R,R⟩)
    ·replace hF:=W.ite_f hb10 hF
     refine At.exit ?_
     refine At.x (At.x ?_)
     refine At.h ?_
     refine At.vh ?_
     refine At.w [] R [] trivial (At.r ⟨(),hF,R,R⟩)
  ·rintro _ _ ⟨_,hF,rfl,rfl⟩
   unfold law13_segments.c1 at hF
   refine At.seq (At.region (At.d R R R R (jd (x:=(.tv kBool true)) (jl _)) ?_))
   refine At.done (At.vh (At.ret ?_))
   exact At.j rfl (rv_tmp rfl) [] rfl ⟨true,hF,rfl,rfl⟩
def ref13_Add.c1 (l1:(List Violation)) (v1:Violation) (at4:Int):W (List Violation):=W.req ((decide (at4<(l1.length:Int)))=true→0≤at4∧at4<(l1.length:Int)) (W.bind (W.ite (decide (at4<(l1.length:Int))) (ref13_Before.F v1.Ids ((rd zViolation l1 at4).Ids)) (W.ret false)) (fun r3=>W.ite ((decide (at4<(l1.length:Int)))&&(!r3)) (W.ret l1) (W.req (0≤at4∧at4≤(l1.length:Int)) (W.req ((([]:List Violation).length+(cut_h l1 at4).length)*48≤140737488355328∧([]:List Violation).length+(cut_h l1 at4).length≤140737488355328) (W.req (0≤at4∧at4≤(l1.length:Int)) (W.req (((([]:List Violation)++(cut_h l1 at4)).length+([v1]:List Violation).length)*48≤140737488355328∧(([]:List Violation)++(cut_h l1 at4)).length+([v1]:List Violation).length≤140737488355328) (W.req ((((([]:List Violation)++(cut_h l1 at4))++([v1]:List Violation)).length+(cut_l l1 at4).length)*48≤140737488355328∧((([]:List Violation)++(cut_h l1 at4))++([v1]:List Violation)).length+(cut_l l1 at4).length≤140737488355328) (W.ret (((([]:List Violation)++(cut_h l1 at4))++([v1]:List Violation))++(cut_l l1 at4))))))))))
def ref13_Add.l1 (l1:(List Violation)) (v1:Violation) (K1:Int→W (List Violation)) (A1:Int→W (List Violation)) (at7:Int):W (List Violation):=W.req ((decide (at7<(l1.length:Int)))=true→0≤at7∧at7<(l1.length:Int)) (W.bind (W.ite (decide (at7<(l1.length:Int))) (ref13_Before.F ((rd zViolation l1 at7).Ids) v1.Ids) (W.ret false)) (fun r6=>W.ite ((decide (at7<(l1.length:Int)))&&r6) (A1 (w64 (at7+(1:Int)))) (K1 at7)))
def ref13_Add.F (l1:(List Violation)) (v1:Violation):W (List Violation):=W.ex fun n=>W.iter1 (ref13_Add.l1 l1 v1 (ref13_Add.c1 l1 v1)) n (0:Int)
theorem ref13_Add.ok {l1:(List Violation)} {v1:Violation} {Q:(List Violation)→Prop} (hF:ref13_Add.F l1 v1 Q):Con Tryz.prog 43 [.tv (kSlice kViolation) l1,.tv kViolation v1] [] (fun ta rs'=>∃ (r:(List Violation)),Q r∧ta=.tv (kSlice kViolation) r∧rs'=[]):=by
 refine Con.i Tryz.func43 Tryz.ntmps43 R R (fun C=>?_)
 unfold ref13_Add.F at hF
 refine At.seq (At.region (At.f R (jw R R R (ja R)) ?_))
 rintro _ _ ⟨g1,rfl,rfl⟩
 refine At.d R R R R (jd (x:=(.eq (.slice none 0 0))) (opd_eq _)) ?_
 refine At.done (At.vh (At.seq (At.region (At.d R R R R (jd (x:=(.tv (kInt .i64) (0:Int))) (ji _ _)) ?_))))
 refine At.done (At.vh ?_)
 refine At.cut (fun rs L=>∃ (at4:Int),ref13_Add.c1 l1 v1 at4 Q∧rs=[.box g1 43 kViolation v1]∧L=mkL [(0,(.tv (kSlice kViolation) l1)),(3,(.eq (.pointer (some ⟨g1,0,none⟩)))),(5,(.tv (kInt .i64) at4))]) ?_ ?_
 ·refine At.block ?_
  obtain ⟨n1,hF⟩:=hF
  refine At.w [0] R [(0,(.tv (kSlice kViolation) l1)),(3,(.eq (.pointer (some ⟨g1,0,none⟩)))),(5,(.tv (kInt .i64) (0:Int)))] ⟨R,R,R,trivial⟩ ?_
  refine At.loop (fun m rs L=>∃ (at7:Int),W.iter1 (ref13_Add.l1 l1 v1 (ref13_Add.c1 l1 v1)) m at7 Q∧rs=[.box g1 43 kViolation v1]∧L=mkL [(0,(.tv (kSlice kViolation) l1)),(3,(.eq (.pointer (some ⟨g1,0,none⟩)))),(5,(.tv (kInt .i64) at7))]) ?_ ?_ (m:=n1) ⟨(0:Int),hF,R,R⟩
  ·rintro rs L ⟨_,hF,_,_⟩;exact hF
  ·rintro m1 _ _ ⟨at7,hF,rfl,rfl⟩
   replace hF:=W.iter1_s hF
   unfold ref13_Add.l1 at hF
   refine At.seq (At.seq ?_)
   refine At.draw mixed [0] R [[]] (fun φ w hgd=>?_)
   obtain ⟨hq11,hF⟩:=hF
   replace hF:=W.vm hF
   refine AtH.take [0] hgd 0 R R R R (D':=#[Y,N,N,N,N,N,N,N,N,N,N,N,N,N]) (by kernel_rfl) (fun _ _ _ _ h=>h) R (jb (x:=(.tv (kInt .i64) at7)) (ja R)) ?_
   refine AtH.take [0] hgd 1 R R R R (D':=#[Y,Y,N,N,N,N,N,N,N,N,N,N,N,N]) (by kernel_rfl) (fun _ _ _ _ h=>h) R (jb (x:=(.tv (kSlice kViolation) l1)) (ja R)) ?_
   refine AtH.take [0] hgd 2 R R R R (D':=#[Y,Y,Y,N,N,N,N,N,N,N,N,N,N,N]) (by kernel_rfl) (fun _ _ _ _ h=>h) R (js (ja R) Tryz.underlying33) ?_
   refine AtH.take [0] hgd 3 R R R R (D':=#[Y,Y,Y,Y,N,N,N,N,N,N,N,N,N,N]) (by kernel_rfl) (fun _ _ _ _ h=>h) R (jk (ja R) (ja R) vd) ?_
   refine AtH.take [0] hgd 4 R R R R (D':=#[Y,Y,Y,Y,Y,N,N,N,N,N,N,N,N,N]) (by kernel_rfl) (fun _ _ _ _ h=>h) R (jb (x:=(.tv kBool (decide (at7<(l1.length:Int))))) (ja R)) ?_
   refine AtH.vk [0] hgd 5 R R R (ju R) R R (D':=#[Y,Y,Y,Y,Y,Y,N,N,N,N,N,N,N,N]) (by kernel_rfl) (fun _ _ _ _ h=>h) R (fun hg85=>(jb (x:=(.tv (kSlice kViolation) l1)) (ja R))) ?_
   refine AtH.vk [0] hgd 6 R R R (ju R) R R (D':=#[Y,Y,Y,Y,Y,Y,Y,N,N,N,N,N,N,N]) (by kernel_rfl) (fun _ _ _ _ h=>h) R (fun hg86=>(jb (x:=(.tv (kInt .i64) at7)) (ja R))) ?_
   refine AtH.vk [0] hgd 7 R R R (ju R) R R (D':=#[Y,Y,Y,Y,Y,Y,Y,Y,N,N,N,N,N,N]) (by kernel_rfl) (fun _ _ _ _ h=>h) R (fun hg87=>(vf zViolation (jh R hg87) (jh R hg87) Tryz.underlying33 ty_43 (hq11 hg87))) ?_
   refine AtH.vk [0] hgd 8 R R R (ju R) R R (D':=#[Y,Y,Y,Y,Y,Y,Y,Y,Y,N,N,N,N,N]) (by kernel_rfl) (fun _ _ _ _ h=>h) R (fun hg88=>(Jd (K:=kViolation) (jh R hg88) fa_43_2 sub_Violation_2)) ?_
   refine AtH.vk [0] hgd 9 R R R (ju R) R R (D':=#[Y,Y,Y,Y,Y,Y,Y,Y,Y,Y,N,N,N,N]) (by kernel_rfl) (fun _ _ _ _ h=>h) R (fun hg89=>(vq (K:=(kSlice kStr)) (jh R hg89) ty_41)) ?_
   refine AtH.vk [0] hgd 10 R R R (ju R) R R (D':=#[Y,Y,Y,Y,Y,Y,Y,Y,Y,Y,Y,N,N,N]) (by kernel_rfl) (fun _ _ _ _ h=>h) R (fun hg90=>(je (ja R) fa_43_2)) ?_
   refine AtH.vk [0] hgd 11 R R R (ju R) R R (D':=#[Y,Y,Y,Y,Y,Y,Y,Y,Y,Y,Y,Y,N,N]) (by kernel_rfl) (fun _ _ _ _ h=>h) R (fun hg91=>(jc (jh R hg91) 0 R sub_Violation_2 ty_41)) ?_
   refine AtH.all1 12 (by kernel_rfl) ?_
   refine AtH.effG [(0,0)] R R R R R R R (ju R) (D':=#[Y,Y,Y,Y,Y,Y,Y,Y,Y,Y,Y,Y,Y,N]) (by kernel_rfl) (by kernel_rfl) hF (fun r=>.tv kBool r) (fun _=>vl) (fun hg92 hF=>eff_of (jn R R jp (jq R en_21 (jf (jh R hg92) (jf (jh R hg92) jg))) (ref13_Before.ok hF) (by rintro _ _ ⟨r,_,rfl,_⟩;exact vl)) (by rintro _ _ ⟨_,_,⟨r,hF,rfl,rfl⟩,rfl,rfl⟩;exact ⟨r,hF,R,R⟩)) (fun r6 hF=>?_)
   refine AtH.take [0] hgd 13 R R R R (D':=#[Y,Y,Y,Y,Y,Y,Y,Y,Y,Y,Y,Y,Y,Y]) (by kernel_rfl) (fun _ _ _ _ h=>h) R (jm (ja R) (ja R) (jl _) ve) ?_
   refine AtH.done (by kernel_rfl) ?_
   refine At.vh ?_
   refine At.cond (ja R) (fun hb6=>?_) (fun hb6=>?_)
   ·replace hF:=W.ite_t hb6 hF
    refine At.skip (At.vh (At.block (At.region (At.d R R R R (jb (x:=(.tv (kInt .i64) at7)) (ja R)) ?_))))
    refine At.d R R R R (jk (ja R) (ji _ _) vc) ?_
    refine At.d R R R R (jd (x:=(.tv (kInt .i64) (w64 (at7+(1:Int))))) (ja R)) ?_
    refine At.done ?_
    refine At.n ?_
    refine At.vh ?_
    refine At.w [0] R [(0,(.tv (kSlice kViolation) l1)),(3,(.eq (.pointer (some ⟨g1,0,none⟩)))),(5,(.tv (kInt .i64) (w64 (at7+(1:Int)))))] ⟨R,R,R,trivial⟩ (At.r ⟨(w64 (at7+(1:Int))),hF,R,R⟩)
   ·replace hF:=W.ite_f hb6 hF
    refine At.exit ?_
    refine At.x (At.x ?_)
    refine At.h ?_
    refine At.vh ?_
    refine At.w [0] R [(0,(.tv (kSlice kViolation) l1)),(3,(.eq (.pointer (some ⟨g1,0,none⟩)))),(5,(.tv (kInt .i64) at7))] ⟨R,R,R,trivial⟩ (At.r ⟨at7,hF,R,R⟩)
 ·rintro _ _ ⟨at4,hF,rfl,rfl⟩
  unfold ref13_Add.c1 at hF
  refine At.seq (At.seq ?_)
  refine At.draw mixed [0] R [[]] (fun φ w hgd=>?_)
  obtain ⟨hq3,hF⟩:=hF
  replace hF:=W.vm hF
  refine AtH.take [0] hgd 0 R R R R (D':=#[Y,N,N,N,N,N,N,N,N,N,N,N,N,N,N]) (by kernel_rfl) (fun _ _ _ _ h=>h) R (jb (x:=(.tv (kInt .i64) at4)) (ja R)) ?_
  refine AtH.take [0] hgd 1 R R R R (D':=#[Y,Y,N,N,N,N,N,N,N,N,N,N,N,N,N]) (by kernel_rfl) (fun _ _ _ _ h=>h) R (jb (x:=(.tv (kSlice kViolation) l1)) (ja R)) ?_
  refine AtH.take [0] hgd 2 R R R R (D':=#[Y,Y,Y,N,N,N,N,N,N,N,N,N,N,N,N]) (by kernel_rfl) (fun _ _ _ _ h=>h) R (js (ja R) Tryz.underlying33) ?_
  refine AtH.take [0] hgd 3 R R R R (D':=#[Y,Y,Y,Y,N,N,N,N,N,N,N,N,N,N,N]) (by kernel_rfl) (fun _ _ _ _ h=>h) R (jk (ja R) (ja R) vd) ?_
  refine AtH.take [0] hgd 4 R R R R (D':=#[Y,Y,Y,Y,Y,N,N,N,N,N,N,N,N,N,N]) (by kernel_rfl) (fun _ _ _ _ h=>h) R (jb (x:=(.tv kBool (decide (at4<(l1.length:Int))))) (ja R)) ?_
  refine AtH.vk [0] hgd 5 R R R (ju R) R R (D':=#[Y,Y,Y,Y,Y,Y,N,N,N,N,N,N,N,N,N]) (by kernel_rfl) (fun _ _ _ _ h=>h) R (fun hg39=>(je (ja R) fa_43_2)) ?_
  refine AtH.vk [0] hgd 6 R R R (ju R) R R (D':=#[Y,Y,Y,Y,Y,Y,Y,N,N,N,N,N,N,N,N]) (by kernel_rfl) (fun _ _ _ _ h=>h) R (fun hg40=>(jc (jh R hg40) 0 R sub_Violation_2 ty_41)) ?_
  refine AtH.vk [0] hgd 7 R R R (ju R) R R (D':=#[Y,Y,Y,Y,Y,Y,Y,Y,N,N,N,N,N,N,N]) (by kernel_rfl) (fun _ _ _ _ h=>h) R (fun hg41=>(jb (x:=(.tv (kSlice kViolation) l1)) (ja R))) ?_
  refine AtH.vk [0] hgd 8 R R R (ju R) R R (D':=#[Y,Y,Y,Y,Y,Y,Y,Y,Y,N,N,N,N,N,N]) (by kernel_rfl) (fun _ _ _ _ h=>h) R (fun hg42=>(jb (x:=(.tv (kInt .i64) at4)) (ja R))) ?_
  refine AtH.vk [0] hgd 9 R R R (ju R) R R (D':=#[Y,Y,Y,Y,Y,Y,Y,Y,Y,Y,N,N,N,N,N]) (by kernel_rfl) (fun _ _ _ _ h=>h) R (fun hg43=>(vf zViolation (jh R hg43) (jh R hg43) Tryz.underlying33 ty_43 (hq3 hg43))) ?_
  refine AtH.vk [0] hgd 10 R R R (ju R) R R (D':=#[Y,Y,Y,Y,Y,Y,Y,Y,Y,Y,Y,N,N,N,N]) (by kernel_rfl) (fun _ _ _ _ h=>h) R (fun hg44=>(Jd (K:=kViolation) (jh R hg44) fa_43_2 sub_Violation_2)) ?_
  refine AtH.vk [0] hgd 11 R R R (ju R) R R (D':=#[Y,Y,Y,Y,Y,Y,Y,Y,Y,Y,Y,Y,N,N,N]) (by kernel_rfl) (fun _ _ _ _ h=>h) R (fun hg45=>(vq (K:=(kSlice kStr)) (jh R hg45) ty_41)) ?_
  refine AtH.all1 12 (by kernel_rfl) ?_
  refine AtH.effG [(0,0)] R R R R R R R (ju R) (D':=#[Y,Y,Y,Y,Y,Y,Y,Y,Y,Y,Y,Y,Y,N,N]) (by kernel_rfl) (by kernel_rfl) hF (fun r=>.tv kBool r) (fun _=>vl) (fun hg46 hF=>eff_of (jn R R jp (jq R en_21 (jf (jh R hg46) (jf (jh R hg46) jg))) (ref13_Before.ok hF) (by rintro _ _ ⟨r,_,rfl,_⟩;exact vl)) (by rintro _ _ ⟨_,_,⟨r,hF,rfl,rfl⟩,rfl,rfl⟩;exact ⟨r,hF,R,R⟩)) (fun r3 hF=>?_)
  refine AtH.vk [0] hgd 13 R R R (ju R) R R (D':=#[Y,Y,Y,Y,Y,Y,Y,Y,Y,Y,Y,Y,Y,Y,N]) (by kernel_rfl) (fun _ _ _ _ h=>h) R (fun hg47=>(does_not (jh R hg47))) ?_
  refine AtH.take [0] hgd 14 R R R R (D':=#[Y,Y,Y,Y,Y,Y,Y,Y,Y,Y,Y,Y,Y,Y,Y]) (by kernel_rfl) (fun _ _ _ _ h=>h) R (jm (ja R) (ja R) (jl _) ve) ?_
  refine AtH.done (by kernel_rfl) ?_
  refine At.vh ?_
  refine At.cond (ja R) (fun hb3=>?_) (fun hb3=>?_)
  ·replace hF:=W.ite_t hb3 hF
   refine At.seq (At.region (At.d R R R R (jb (x:=(.tv (kSlice kViolation) l1)) (ja R)) ?_))
   refine At.d R R R R (jd (x:=(.tv (kSlice kViolation) l1)) (ja R)) ?_
   refine At.done (At.vh (At.ret (At.vi ?_)))
   exact At.j rfl (rv_tmp rfl) [] rfl ⟨l1,hF,rfl,rfl⟩
  ·replace hF:=W.ite_f hb3 hF
   refine At.skip (At.vh (At.seq (At.region (At.f R (jy R R R (os:=[]) R sl_33 (xs:=([]:List Violation)) jg R R) ?_))))
   rintro _ _ ⟨v2,rfl,rfl⟩
   refine At.d R R R R (jb (x:=(.tv (kSlice kViolation) l1)) (ja R)) ?_
   refine At.d R R R R (jb (x:=(.tv (kInt .i64) at4)) (ja R)) ?_
   obtain ⟨hq4,hF⟩:=hF
   refine At.d R R R R (does_cut_h (ja R) (ja R) Tryz.underlying33 ty_43 hq4) ?_
   obtain ⟨hq5,hF⟩:=hF
   refine At.f R (eff_append_view R R R 0 R (ja R) (ja R) sl_33 hq5) ?_
   rintro _ _ ⟨v3,rfl,rfl⟩
   refine At.d R R R R (jd (x:=(.eq v3)) (ja R)) ?_
   refine At.done (At.vh (At.seq ?_))
   refine At.draw mixed [0,1] R [[3,7],[]] (fun φ w hgd=>?_)
   obtain ⟨hq6,hF⟩:=hF
   obtain ⟨hq7,hF⟩:=hF
   obtain ⟨hq8,hF⟩:=hF
   refine AtH.take [1] hgd 0 R R R R (D':=#[Y,N,N,N,N,N,N,N,N]) (by kernel_rfl) (fun _ _ _ _ h=>h) R (jb (x:=(.eq v3)) (ja R)) ?_
   refine AtH.take [1] hgd 1 R R R R (D':=#[Y,Y,N,N,N,N,N,N,N]) (by kernel_rfl) (fun _ _ _ _ h=>h) R (jc (ja R) 0 R (Sub.self kViolation) ty_43) ?_
   refine AtH.take [1] hgd 4 R R R R (D':=#[Y,Y,N,N,Y,N,N,N,N]) (by kernel_rfl) (fun _ _ _ _ h=>h) R (jb (x:=(.tv (kSlice kViolation) l1)) (ja R)) ?_
   refine AtH.take [1] hgd 5 R R R R (D':=#[Y,Y,N,N,Y,Y,N,N,N]) (by kernel_rfl) (fun _ _ _ _ h=>h) R (jb (x:=(.tv (kInt .i64) at4)) (ja R)) ?_
   refine AtH.take [1] hgd 6 R R R R (D':=#[Y,Y,N,N,Y,Y,Y,N,N]) (by kernel_rfl) (fun _ _ _ _ h=>h) R (does_cut_l (ja R) (ja R) Tryz.underlying33 ty_43 hq6) ?_
   refine AtH.all1 2 (by kernel_rfl) ?_
   refine AtH.f [(0,0),(1,1)] R R R R R R (jy R R R (os:=[.tmp 45]) R sl_33 (xs:=([v1]:List Violation)) (jf (ja R) jg) R R) (D':=#[Y,Y,Y,N,Y,Y,Y,N,N]) (by kernel_rfl) (by kernel_rfl) ?_
   rintro _ _ ⟨v7,rfl,rfl⟩
   refine ⟨_,.inr ⟨R,flat_eq⟩,?_⟩
   refine AtH.all1 3 (by kernel_rfl) ?_
   refine AtH.f [(1,2)] R R R R R R (eff_append_row R R R 1 0 R R (ja R) (ja R) sl_33 hq7) (D':=#[Y,Y,Y,Y,Y,Y,Y,N,N]) (by kernel_rfl) (by kernel_rfl) ?_
   rintro _ _ ⟨v8,rfl,rfl⟩
   refine ⟨_,.inr ⟨R,flat_eq⟩,?_⟩
   refine AtH.all1 7 (by kernel_rfl) ?_
   refine AtH.f [(1,2)] R R R R R R (eff_append_view R R R 1 R (ja R) (ja R) sl_33 hq8) (D':=#[Y,Y,Y,Y,Y,Y,Y,Y,N]) (by kernel_rfl) (by kernel_rfl) ?_
   rintro _ _ ⟨v9,rfl,rfl⟩
   refine ⟨_,.inr ⟨R,flat_eq⟩,?_⟩
   refine AtH.take [1] hgd 8 R R R R (D':=#[Y,Y,Y,Y,Y,Y,Y,Y,Y]) (by kernel_rfl) (fun _ _ _ _ h=>h) R (jd (x:=(.eq v9)) (ja R)) ?_
   refine AtH.done (by kernel_rfl) ?_
   refine At.vh (At.ret ?_)
   refine At.freeze2 1 4 51 R R R ?_
   exact At.j rfl (rv_tmp rfl) [] rfl ⟨(((([]:List Violation)++(cut_h l1 at4))++([v1]:List Violation))++(cut_l l1 at4)),hF,rfl,rfl⟩
def ref13_Sides.c3 (x9:(List (BA×BA))):W (List (BA×BA)):=W.ret x9
def ref13_Sides.l1 (K3:(List (BA×BA))→W (List (BA×BA))) (A1:(List (BA×BA))→Int→W (List (BA×BA))) (x12:(List (BA×BA))) (i9:Int):W (List (BA×BA)):=W.ite (decide (i9<(x12.length:Int))) (W.req (0≤i9∧i9<(x12.length:Int)) (A1 (x12.set i9.toNat ((sMin ((rd ((⟨#[]⟩:BA),(⟨#[]⟩:BA)) x12 i9).1) ((rd ((⟨#[]⟩:BA),(⟨#[]⟩:BA)) x12 i9).2)),(sMax ((rd ((⟨#[]⟩:BA),(⟨#[]⟩:BA)) x12 i9).1) ((rd ((⟨#[]⟩:BA),(⟨#[]⟩:BA)) x12 i9).2)))) (w64 (i9+(1:Int))))) (K3 x12)
def ref13_Sides.c2 (x5:(List (BA×BA))):W (List (BA×BA)):=W.ex fun n=>W.iter2 (ref13_Sides.l1 (ref13_Sides.c3)) n x5 (0:Int)
def ref13_Sides.c1 (o1:Object) (x4:(List (BA×BA))):W (List (BA×BA)):=W.ite (o1.Kind==(3:Int)) (W.req (0≤(w64 ((o1.Refs.length:Int)-(1:Int)))∧(w64 ((o1.Refs.length:Int)-(1:Int)))<(o1.Refs.length:Int)) (W.req (0≤(0:Int)∧(0:Int)<(o1.Refs.length:Int)) (W.req ((x4.length+([((rd (⟨#[]⟩:BA) o1.Refs (w64 ((o1.Refs.length:Int)-(1:Int)))),(rd (⟨#[]⟩:BA) o1.Refs (0:Int)))]:List (BA×BA)).length)*32≤140737488355328∧x4.length+([((rd (⟨#[]⟩:BA) o1.Refs (w64 ((o1.Refs.length:Int)-(1:Int)))),(rd (⟨#[]⟩:BA) o1.Refs (0:Int)))]:List (BA×BA)).length≤140737488355328) ((ref13_Sides.c2) (x4++([((rd (⟨#[]⟩:BA) o1.Refs (w64 ((o1.Refs.length:Int)-(1:Int)))),(rd (⟨#[]⟩:BA) o1.Refs (0:Int)))]:List (BA×BA))))))) ((ref13_Sides.c2) x4)
def ref13_Sides.l2 (o1:Object) (K1:(List (BA×BA))→W (List (BA×BA))) (A2:(List (BA×BA))→Int→W (List (BA×BA))) (x15:(List (BA×BA))) (i12:Int):W (List (BA×BA)):=W.ite (decide ((w64 (i12+(1:Int)))<(o1.Refs.length:Int))) (W.req (0≤i12∧i12<(o1.Refs.length:Int)) (W.req (0≤(w64 (i12+(1:Int)))∧(w64 (i12+(1:Int)))<(o1.Refs.length:Int)) (W.req ((x15.length+([((rd (⟨#[]⟩:BA) o1.Refs i12),(rd (⟨#[]⟩:BA) o1.Refs (w64 (i12+(1:Int)))))]:List (BA×BA)).length)*32≤140737488355328∧x15.length+([((rd (⟨#[]⟩:BA) o1.Refs i12),(rd (⟨#[]⟩:BA) o1.Refs (w64 (i12+(1:Int)))))]:List (BA×BA)).length≤140737488355328) (A2 (x15++([((rd (⟨#[]⟩:BA) o1.Refs i12),(rd (⟨#[]⟩:BA) o1.Refs (w64 (i12+(1:Int)))))]:List (BA×BA))) (w64 (i12+(1:Int))))))) (K1 x15)
def ref13_Sides.F (o1:Object):W (List (BA×BA)):=W.ite ((o1.Kind != (2:Int))&&(o1.Kind != (3:Int))) (W.ret ([]:List (BA×BA))) (W.ex fun n=>W.iter2 (ref13_Sides.l2 o1 (ref13_Sides.c1 o1)) n ([]:List (BA×BA)) (0:Int))
theorem ref13_Sides.ok {o1:Object} {Q:(List (BA×BA))→Prop} (hF:ref13_Sides.F o1 Q):Con Tryz.prog 51 [.tv kObject o1] [] (fun ta rs'=>∃ (r:(List (BA×BA))) (u0:Value),Q r∧ta=.eq u0∧rs'=[.row u0 50 (kPair kStr kStr) r]):=by
 refine Con.i Tryz.func51 Tryz.ntmps51 R R (fun C=>?_)
 unfold ref13_Sides.F at hF
 refine At.seq (At.region (At.f R (jw R R R (ja R)) ?_))
 rintro _ _ ⟨g1,rfl,rfl⟩
 refine At.d R R R R (jd (x:=(.eq (.slice none 0 0))) (opd_eq _)) ?_
 refine At.done (At.vh (At.seq (At.region (At.d R R R R (jd (x:=(.eq (.slice none 0 0))) (opd_eq _)) ?_))))
 refine At.done (At.vh (At.seq (At.seq (At.region (At.d R R R R (je (ja R) fa_59_1) ?_)))))
 refine At.d R R R R (jc (ja R) 0 R sub_Object_1 ty_3) ?_
 refine At.d R R R R (jk (ja R) (ji _ _) bin_neq) ?_
 refine At.d R R R R (jb (x:=(.tv kBool (o1.Kind != (2:Int)))) (ja R)) ?_
 refine At.vj R R R R (ju R) R (fun hg1=>(je (ja R) fa_59_1)) ?_
 refine At.vj R R R R (ju R) R (fun hg2=>(jc (jh R hg2) 0 R sub_Object_1 ty_3)) ?_
 refine At.vj R R R R (ju R) R (fun hg3=>(jk (jh R hg3) (ji _ _) bin_neq)) ?_
 refine At.d R R R R (jm (ja R) (ja R) (jl _) ve) ?_
 refine At.done (At.vh ?_)
 refine At.cond (ja R) (fun hb1=>?_) (fun hb1=>?_)
 ·replace hF:=W.ite_t hb1 hF
  refine At.seq (At.region (At.d R R R R (jd (x:=(.eq (.slice none 0 0))) (opd_eq _)) ?_))
  refine At.done (At.vh (At.ret (At.vi ?_)))
  refine At.nilrow 50 (kPair kStr kStr) ?_
  exact At.j rfl (rv_tmp rfl) [0] rfl ⟨([]:List (BA×BA)),_,hF,rfl,rfl⟩
 ·replace hF:=W.ite_f hb1 hF
  refine At.skip (At.vh ?_)
  refine At.cut (fun rs L=>∃ (x4:(List (BA×BA))) (v12:Value),ref13_Sides.c1 o1 x4 Q∧rs=[.box g1 59 kObject o1,.row v12 50 (kPair kStr kStr) x4]∧L=mkL [(1,(.eq (.pointer (some ⟨g1,0,none⟩)))),(3,(.eq v12))]) ?_ ?_
  ·refine At.seq (At.region (At.d R R R R (jd (x:=(.tv (kInt .i64) (0:Int))) (ji _ _)) ?_))
   refine At.done (At.vh (At.block ?_))
   refine At.nilrow 50 (kPair kStr kStr) ?_
   obtain ⟨n2,hF⟩:=hF
   refine At.w [1,0] R [(1,(.eq (.pointer (some ⟨g1,0,none⟩)))),(3,(.eq (.slice none 0 0))),(4,(.tv (kInt .i64) (0:Int)))] ⟨R,R,R,trivial⟩ ?_
   refine At.loop (fun m rs L=>∃ (x15:(List (BA×BA))) (v32:Value) (i12:Int),W.iter2 (ref13_Sides.l2 o1 (ref13_Sides.c1 o1)) m x15 i12 Q∧rs=[.box g1 59 kObject o1,.row v32 50 (kPair kStr kStr) x15]∧L=mkL [(1,(.eq (.pointer (some ⟨g1,0,none⟩)))),(3,(.eq v32)),(4,(.tv (kInt .i64) i12))]) ?_ ?_ (m:=n2) ⟨([]:List (BA×BA)),(.slice none 0 0),(0:Int),hF,R,R⟩
   ·rintro rs L ⟨_,_,_,hF,_,_⟩;exact hF
   ·rintro m2 _ _ ⟨x15,v32,i12,hF,rfl,rfl⟩
    replace hF:=W.iter2_s hF
    unfold ref13_Sides.l2 at hF
    refine At.seq (At.seq (At.region (At.d R R R R (jb (x:=(.tv (kInt .i64) i12)) (ja R)) ?_)))
    refine At.d R R R R (jk (ja R) (ji _ _) vc) ?_
    refine At.d R R R R (je (ja R) fa_59_3) ?_
    refine At.d R R R R (jc (ja R) 0 R sub_Object_3 ty_41) ?_
    refine At.d R R R R (js (ja R) Tryz.underlying41) ?_
    refine At.d R R R R (jk (ja R) (ja R) vd) ?_
    refine At.done (At.vh ?_)
    refine At.cond (ja R) (fun hb13=>?_) (fun hb13=>?_)
    ·replace hF:=W.ite_t hb13 hF
     refine At.skip (At.vh (At.seq (At.block ?_)))
     refine At.draw mixed [0,1] R [[],[14]] (fun φ w hgd=>?_)
     obtain ⟨hq24,hF⟩:=hF
     obtain ⟨hq25,hF⟩:=hF
     obtain ⟨hq26,hF⟩:=hF
     refine AtH.take [0,1] hgd 0 R R R R (D':=#[Y,N,N,N,N,N,N,N,N,N,N,N,N,N,N,N]) (by kernel_rfl) (fun _ _ _ _ h=>h) R (jb (x:=(.eq v32)) (ja R)) ?_
     refine AtH.take [0] hgd 1 R R R R (D':=#[Y,Y,N,N,N,N,N,N,N,N,N,N,N,N,N,N]) (by kernel_rfl) (fun _ _ _ _ h=>h) R (je (ja R) fa_59_3) ?_
     refine AtH.take [0] hgd 2 R R R R (D':=#[Y,Y,Y,N,N,N,N,N,N,N,N,N,N,N,N,N]) (by kernel_rfl) (fun _ _ _ _ h=>h) R (jc (ja R) 0 R sub_Object_3 ty_41) ?_
     refine AtH.take [0] hgd 3 R R R R (D':=#[Y,Y,Y,Y,N,N,N,N,N,N,N,N,N,N,N,N]) (by kernel_rfl) (fun _ _ _ _ h=>h) R (jb (x:=(.tv (kInt .i64) i12)) (ja R)) ?_
     refine AtH.take [0] hgd 4 R R R R (D':=#[Y,Y,Y,Y,Y,N,N,N,N,N,N,N,N,N,N,N]) (by kernel_rfl) (fun _ _ _ _ h=>h) R (vf (⟨#[]⟩:BA) (ja R) (ja R) Tryz.underlying41 ty_9 hq24) ?_
     refine AtH.take [0] hgd 5 R R R R (D':=#[Y,Y,Y,Y,Y,Y,N,N,N,N,N,N,N,N,N,N]) (by kernel_rfl) (fun _ _ _ _ h=>h) R (vq (K:=kStr) (ja R) ty_9) ?_
     refine AtH.take [0] hgd 6 R R R R (D':=#[Y,Y,Y,Y,Y,Y,Y,N,N,N,N,N,N,N,N,N]) (by kernel_rfl) (fun _ _ _ _ h=>h) R (je (ja R) fa_59_3) ?_
     refine AtH.take [0] hgd 7 R R R R (D':=#[Y,Y,Y,Y,Y,Y,Y,Y,N,N,N,N,N,N,N,N]) (by kernel_rfl) (fun _ _ _ _ h=>h) R (jc (ja R) 0 R sub_Object_3 ty_41) ?_
     refine AtH.take [0] hgd 8 R R R R (D':=#[Y,Y,Y,Y,Y,Y,Y,Y,Y,N,N,N,N,N,N,N]) (by kernel_rfl) (fun _ _ _ _ h=>h) R (jb (x:=(.tv (kInt .i64) i12)) (ja R)) ?_
     refine AtH.take [0] hgd 9 R R R R (D':=#[Y,Y,Y,Y,Y,Y,Y,Y,Y,Y,N,N,N,N,N,N]) (by kernel_rfl) (fun _ _ _ _ h=>h) R (jk (ja R) (ji _ _) vc) ?_
     refine AtH.take [0] hgd 10 R R R R (D':=#[Y,Y,Y,Y,Y,Y,Y,Y,Y,Y,Y,N,N,N,N,N]) (by kernel_rfl) (fun _ _ _ _ h=>h) R (vf (⟨#[]⟩:BA) (ja R) (ja R) Tryz.underlying41 ty_9 hq25) ?_
     refine AtH.take [0] hgd 11 R R R R (D':=#[Y,Y,Y,Y,Y,Y,Y,Y,Y,Y,Y,Y,N,N,N,N]) (by kernel_rfl) (fun _ _ _ _ h=>h) R (vq (K:=kStr) (ja R) ty_9) ?_
     refine AtH.take [0] hgd 12 R R R R (D':=#[Y,Y,Y,Y,Y,Y,Y,Y,Y,Y,Y,Y,Y,N,N,N]) (by kernel_rfl) (fun _ _ _ _ h=>h) R (jz (jr (ja R) (jr (ja R) parts_nil)) zr_50 bd_50 R (fills_cons R sub_a50_0 (fills_cons R sub_a50_1 fills_nil))) ?_
     refine AtH.all1 13 (by kernel_rfl) ?_
     refine AtH.f [(0,0),(1,1)] R R R R R R (jy R R R (os:=[.tmp 34]) R sl_51 (xs:=([((rd (⟨#[]⟩:BA) o1.Refs i12),(rd (⟨#[]⟩:BA) o1.Refs (w64 (i12+(1:Int)))))]:List (BA×BA))) (jf (ja R) jg) R R) (D':=#[Y,Y,Y,Y,Y,Y,Y,Y,Y,Y,Y,Y,Y,Y,N,N]) (by kernel_rfl) (by kernel_rfl) ?_
     rintro _ _ ⟨v35,rfl,rfl⟩
     refine ⟨_,.inr ⟨R,flat_eq⟩,?_⟩
     refine AtH.all1 14 (by kernel_rfl) ?_
     refine AtH.f [(0,1)] R R R R R R (eff_append_row R R R 2 0 R R (ja R) (ja R) sl_51 hq26) (D':=#[Y,Y,Y,Y,Y,Y,Y,Y,Y,Y,Y,Y,Y,Y,Y,N]) (by kernel_rfl) (by kernel_rfl) ?_
     rintro _ _ ⟨v36,rfl,rfl⟩
     refine ⟨_,.inr ⟨R,flat_eq⟩,?_⟩
     refine AtH.take [0] hgd 15 R R R R (D':=#[Y,Y,Y,Y,Y,Y,Y,Y,Y,Y,Y,Y,Y,Y,Y,Y]) (by kernel_rfl) (fun _ _ _ _ h=>h) R (jd (x:=(.eq v36)) (ja R)) ?_
     refine AtH.done (by kernel_rfl) ?_
     refine At.n ?_
     refine At.vh (At.region (At.d R R R R (jb (x:=(.tv (kInt .i64) i12)) (ja R)) ?_))
     refine At.d R R R R (jk (ja R) (ji _ _) vc) ?_
     refine At.d R R R R (jd (x:=(.tv (kInt .i64) (w64 (i12+(1:Int))))) (ja R)) ?_
     refine At.done (At.vh ?_)
     refine At.w [1,2] R [(1,(.eq (.pointer (some ⟨g1,0,none⟩)))),(3,(.eq v36)),(4,(.tv (kInt .i64) (w64 (i12+(1:Int)))))] ⟨R,R,R,trivial⟩ (At.r ⟨(x15++([((rd (⟨#[]⟩:BA) o1.Refs i12),(rd (⟨#[]⟩:BA) o1.Refs (w64 (i12+(1:Int)))))]:List (BA×BA))),v36,(w64 (i12+(1:Int))),hF,R,R⟩)
    ·replace hF:=W.ite_f hb13 hF
     refine At.exit ?_
     refine At.x (At.x ?_)
     refine At.h ?_
     refine At.vh ?_
     refine At.w [0,1] R [(1,(.eq (.pointer (some ⟨g1,0,none⟩)))),(3,(.eq v32))] ⟨R,R,trivial⟩ (At.r ⟨x15,v32,hF,R,R⟩)
  ·rintro _ _ ⟨x4,v12,hF,rfl,rfl⟩
   unfold ref13_Sides.c1 at hF
   refine At.cut (fun rs L=>∃ (x5:(List (BA×BA))) (v17:Value),ref13_Sides.c2 x5 Q∧rs=[.row v17 50 (kPair kStr kStr) x5]∧L=mkL [(3,(.eq v17))]) ?_ ?_
   ·refine At.seq (At.region (At.d R R R R (je (ja R) fa_59_1) ?_))
    refine At.d R R R R (jc (ja R) 0 R sub_Object_1 ty_3) ?_
    refine At.d R R R R (jk (ja R) (ji _ _) bin_eql) ?_
    refine At.done (At.vh ?_)
    refine At.cond (ja R) (fun hb10=>?_) (fun hb10=>?_)
    ·replace hF:=W.ite_t hb10 hF
     refine At.draw mixed [0,1] R [[],[15]] (fun φ w hgd=>?_)
     obtain ⟨hq15,hF⟩:=hF
     obtain ⟨hq16,hF⟩:=hF
     obtain ⟨hq17,hF⟩:=hF
     refine AtH.take [0,1] hgd 0 R R R R (D':=#[Y,N,N,N,N,N,N,N,N,N,N,N,N,N,N,N,N]) (by kernel_rfl) (fun _ _ _ _ h=>h) R (jb (x:=(.eq v12)) (ja R)) ?_
     refine AtH.take [0] hgd 1 R R R R (D':=#[Y,Y,N,N,N,N,N,N,N,N,N,N,N,N,N,N,N]) (by kernel_rfl) (fun _ _ _ _ h=>h) R (je (ja R) fa_59_3) ?_
     refine AtH.take [0] hgd 2 R R R R (D':=#[Y,Y,Y,N,N,N,N,N,N,N,N,N,N,N,N,N,N]) (by kernel_rfl) (fun _ _ _ _ h=>h) R (jc (ja R) 0 R sub_Object_3 ty_41) ?_
     refine AtH.take [0] hgd 3 R R R R (D':=#[Y,Y,Y,Y,N,N,N,N,N,N,N,N,N,N,N,N,N]) (by kernel_rfl) (fun _ _ _ _ h=>h) R (je (ja R) fa_59_3) ?_
     refine AtH.take [0] hgd 4 R R R R (D':=#[Y,Y,Y,Y,Y,N,N,N,N,N,N,N,N,N,N,N,N]) (by kernel_rfl) (fun _ _ _ _ h=>h) R (jc (ja R) 0 R sub_Object_3 ty_41) ?_
     refine AtH.take [0] hgd 5 R R R R (D':=#[Y,Y,Y,Y,Y,Y,N,N,N,N,N,N,N,N,N,N,N]) (by kernel_rfl) (fun _ _ _ _ h=>h) R (js (ja R) Tryz.underlying41) ?_
     refine AtH.take [0] hgd 6 R R R R (D':=#[Y,Y,Y,Y,Y,Y,Y,N,N,N,N,N,N,N,N,N,N]) (by kernel_rfl) (fun _ _ _ _ h=>h) R (jk (ja R) (ji _ _) bin_sub) ?_
     refine AtH.take [0] hgd 7 R R R R (D':=#[Y,Y,Y,Y,Y,Y,Y,Y,N,N,N,N,N,N,N,N,N]) (by kernel_rfl) (fun _ _ _ _ h=>h) R (vf (⟨#[]⟩:BA) (ja R) (ja R) Tryz.underlying41 ty_9 hq15) ?_
     refine AtH.take [0] hgd 8 R R R R (D':=#[Y,Y,Y,Y,Y,Y,Y,Y,Y,N,N,N,N,N,N,N,N]) (by kernel_rfl) (fun _ _ _ _ h=>h) R (vq (K:=kStr) (ja R) ty_9) ?_
     refine AtH.take [0] hgd 9 R R R R (D':=#[Y,Y,Y,Y,Y,Y,Y,Y,Y,Y,N,N,N,N,N,N,N]) (by kernel_rfl) (fun _ _ _ _ h=>h) R (je (ja R) fa_59_3) ?_
     refine AtH.take [0] hgd 10 R R R R (D':=#[Y,Y,Y,Y,Y,Y,Y,Y,Y,Y,Y,N,N,N,N,N,N]) (by kernel_rfl) (fun _ _ _ _ h=>h) R (jc (ja R) 0 R sub_Object_3 ty_41) ?_
     refine AtH.take [0] hgd 11 R R R R (D':=#[Y,Y,Y,Y,Y,Y,Y,Y,Y,Y,Y,Y,N,N,N,N,N]) (by kernel_rfl) (fun _ _ _ _ h=>h) R (vf (⟨#[]⟩:BA) (ja R) (ji _ _) Tryz.underlying41 ty_9 hq16) ?_
     refine AtH.take [0] hgd 12 R R R R (D':=#[Y,Y,Y,Y,Y,Y,Y,Y,Y,Y,Y,Y,Y,N,N,N,N]) (by kernel_rfl) (fun _ _ _ _ h=>h) R (vq (K:=kStr) (ja R) ty_9) ?_
     refine AtH.take [0] hgd 13 R R R R (D':=#[Y,Y,Y,Y,Y,Y,Y,Y,Y,Y,Y,Y,Y,Y,N,N,N]) (by kernel_rfl) (fun _ _ _ _ h=>h) R (jz (jr (ja R) (jr (ja R) parts_nil)) zr_50 bd_50 R (fills_cons R sub_a50_0 (fills_cons R sub_a50_1 fills_nil))) ?_
     refine AtH.all1 14 (by kernel_rfl) ?_
     refine AtH.f [(0,0),(1,1)] R R R R R R (jy R R R (os:=[.tmp 53]) R sl_51 (xs:=([((rd (⟨#[]⟩:BA) o1.Refs (w64 ((o1.Refs.length:Int)-(1:Int)))),(rd (⟨#[]⟩:BA) o1.Refs (0:Int)))]:List (BA×BA))) (jf (ja R) jg) R R) (D':=#[Y,Y,Y,Y,Y,Y,Y,Y,Y,Y,Y,Y,Y,Y,Y,N,N]) (by kernel_rfl) (by kernel_rfl) ?_
     rintro _ _ ⟨v20,rfl,rfl⟩
     refine ⟨_,.inr ⟨R,flat_eq⟩,?_⟩
     refine AtH.all1 15 (by kernel_rfl) ?_
     refine AtH.f [(0,1)] R R R R R R (eff_append_row R R R 2 0 R R (ja R) (ja R) sl_51 hq17) (D':=#[Y,Y,Y,Y,Y,Y,Y,Y,Y,Y,Y,Y,Y,Y,Y,Y,N]) (by kernel_rfl) (by kernel_rfl) ?_
     rintro _ _ ⟨v21,rfl,rfl⟩
     refine ⟨_,.inr ⟨R,flat_eq⟩,?_⟩
     refine AtH.take [0] hgd 16 R R R R (D':=#[Y,Y,Y,Y,Y,Y,Y,Y,Y,Y,Y,Y,Y,Y,Y,Y,Y]) (by kernel_rfl) (fun _ _ _ _ h=>h) R (jd (x:=(.eq v21)) (ja R)) ?_
     refine AtH.done (by kernel_rfl) ?_
     refine At.vh ?_
     refine At.w [2] R [(3,(.eq v21))] ⟨R,trivial⟩ (At.r ⟨(x4++([((rd (⟨#[]⟩:BA) o1.Refs (w64 ((o1.Refs.length:Int)-(1:Int)))),(rd (⟨#[]⟩:BA) o1.Refs (0:Int)))]:List (BA×BA))),v21,hF,R,R⟩)
    ·replace hF:=W.ite_f hb10 hF
     refine At.skip (At.vh ?_)
     refine At.w [1] R [(3,(.eq v12))] ⟨R,trivial⟩ (At.r ⟨x4,v12,hF,R,R⟩)
   ·rintro _ _ ⟨x5,v17,hF,rfl,rfl⟩
    unfold ref13_Sides.c2 at hF
    refine At.cut (fun rs L=>∃ (x9:(List (BA×BA))),ref13_Sides.c3 x9 Q∧rs=[.row v17 50 (kPair kStr kStr) x9]∧L=mkL [(3,(.eq v17))]) ?_ ?_
    ·refine At.seq (At.region (At.d R R R R (jd (x:=(.tv (kInt .i64) (0:Int))) (ji _ _)) ?_))
     refine At.done (At.vh (At.block ?_))
     obtain ⟨n1,hF⟩:=hF
     refine At.w [0] R [(3,(.eq v17)),(5,(.tv (kInt .i64) (0:Int)))] ⟨R,R,trivial⟩ ?_
     refine At.loop (fun m rs L=>∃ (x12:(List (BA×BA))) (i9:Int),W.iter2 (ref13_Sides.l1 (ref13_Sides.c3)) m x12 i9 Q∧rs=[.row v17 50 (kPair kStr kStr) x12]∧L=mkL [(3,(.eq v17)),(5,(.tv (kInt .i64) i9))]) ?_ ?_ (m:=n1) ⟨x5,(0:Int),hF,R,R⟩
     ·rintro rs L ⟨_,_,hF,_,_⟩;exact hF
     ·rintro m1 _ _ ⟨x12,i9,hF,rfl,rfl⟩
      replace hF:=W.iter2_s hF
      unfold ref13_Sides.l1 at hF
      refine At.seq (At.seq (At.region (At.d R R R R (jb (x:=(.tv (kInt .i64) i9)) (ja R)) ?_)))
      refine At.d R R R R (jb (x:=(.eq v17)) (ja R)) ?_
      refine At.d R R R R (does_len_row (ja R) 0 R Tryz.underlying51) ?_
      refine At.d R R R R (jk (ja R) (ja R) vd) ?_
      refine At.done (At.vh ?_)
      refine At.cond (ja R) (fun hb9=>?_) (fun hb9=>?_)
      ·replace hF:=W.ite_t hb9 hF
       refine At.skip (At.vh (At.seq (At.block ?_)))
       refine At.draw mixed [0] R [[26]] (fun φ w hgd=>?_)
       obtain ⟨hq14,hF⟩:=hF
       refine AtH.take [0] hgd 0 R R R R (D':=#[Y,N,N,N,N,N,N,N,N,N,N,N,N,N,N,N,N,N,N,N,N,N,N,N,N,N,N]) (by kernel_rfl) (fun _ _ _ _ h=>h) R (jb (x:=(.eq v17)) (ja R)) ?_
       refine AtH.take [0] hgd 1 R R R R (D':=#[Y,Y,N,N,N,N,N,N,N,N,N,N,N,N,N,N,N,N,N,N,N,N,N,N,N,N,N]) (by kernel_rfl) (fun _ _ _ _ h=>h) R (jb (x:=(.tv (kInt .i64) i9)) (ja R)) ?_
       refine AtH.take [0] hgd 2 R R R R (D':=#[Y,Y,Y,N,N,N,N,N,N,N,N,N,N,N,N,N,N,N,N,N,N,N,N,N,N,N,N]) (by kernel_rfl) (fun _ _ _ _ h=>h) R (jb (x:=(.eq v17)) (ja R)) ?_
       refine AtH.take [0] hgd 3 R R R R (D':=#[Y,Y,Y,Y,N,N,N,N,N,N,N,N,N,N,N,N,N,N,N,N,N,N,N,N,N,N,N]) (by kernel_rfl) (fun _ _ _ _ h=>h) R (jb (x:=(.tv (kInt .i64) i9)) (ja R)) ?_
       refine AtH.take [0] hgd 4 R R R R (D':=#[Y,Y,Y,Y,Y,N,N,N,N,N,N,N,N,N,N,N,N,N,N,N,N,N,N,N,N,N,N]) (by kernel_rfl) (fun _ _ _ _ h=>h) R (does_idx_row (ja R) 0 R (ja R) Tryz.underlying51 ty_50 hq14) ?_
       refine AtH.take [0] hgd 5 R R R R (D':=#[Y,Y,Y,Y,Y,Y,N,N,N,N,N,N,N,N,N,N,N,N,N,N,N,N,N,N,N,N,N]) (by kernel_rfl) (fun _ _ _ _ h=>h) R (does_aidx_elem (ja R) (ji _ _) ia_50_0) ?_
       refine AtH.take [0] hgd 6 R R R R (D':=#[Y,Y,Y,Y,Y,Y,Y,N,N,N,N,N,N,N,N,N,N,N,N,N,N,N,N,N,N,N,N]) (by kernel_rfl) (fun _ _ _ _ h=>h) R (Jc (ja R) 0 R i9 0 R ((⟨#[]⟩:BA),(⟨#[]⟩:BA)) hq14 sub_a50_0 ty_9) ?_
       refine AtH.take [0] hgd 7 R R R R (D':=#[Y,Y,Y,Y,Y,Y,Y,Y,N,N,N,N,N,N,N,N,N,N,N,N,N,N,N,N,N,N,N]) (by kernel_rfl) (fun _ _ _ _ h=>h) R (jb (x:=(.eq v17)) (ja R)) ?_
       refine AtH.take [0] hgd 8 R R R R (D':=#[Y,Y,Y,Y,Y,Y,Y,Y,Y,N,N,N,N,N,N,N,N,N,N,N,N,N,N,N,N,N,N]) (by kernel_rfl) (fun _ _ _ _ h=>h) R (jb (x:=(.tv (kInt .i64) i9)) (ja R)) ?_
       refine AtH.take [0] hgd 9 R R R R (D':=#[Y,Y,Y,Y,Y,Y,Y,Y,Y,Y,N,N,N,N,N,N,N,N,N,N,N,N,N,N,N,N,N]) (by kernel_rfl) (fun _ _ _ _ h=>h) R (does_idx_row (ja R) 0 R (ja R) Tryz.underlying51 ty_50 hq14) ?_
       refine AtH.take [0] hgd 10 R R R R (D':=#[Y,Y,Y,Y,Y,Y,Y,Y,Y,Y,Y,N,N,N,N,N,N,N,N,N,N,N,N,N,N,N,N]) (by kernel_rfl) (fun _ _ _ _ h=>h) R (does_aidx_elem (ja R) (ji _ _) ia_50_1) ?_
       refine AtH.take [0] hgd 11 R R R R (D':=#[Y,Y,Y,Y,Y,Y,Y,Y,Y,Y,Y,Y,N,N,N,N,N,N,N,N,N,N,N,N,N,N,N]) (by kernel_rfl) (fun _ _ _ _ h=>h) R (Jc (ja R) 0 R i9 1 R ((⟨#[]⟩:BA),(⟨#[]⟩:BA)) hq14 sub_a50_1 ty_9) ?_
       refine AtH.take [0] hgd 12 R R R R (D':=#[Y,Y,Y,Y,Y,Y,Y,Y,Y,Y,Y,Y,Y,N,N,N,N,N,N,N,N,N,N,N,N,N,N]) (by kernel_rfl) (fun _ _ _ _ h=>h) R (does_smin (ja R) (ja R)) ?_
       refine AtH.take [0] hgd 13 R R R R (D':=#[Y,Y,Y,Y,Y,Y,Y,Y,Y,Y,Y,Y,Y,Y,N,N,N,N,N,N,N,N,N,N,N,N,N]) (by kernel_rfl) (fun _ _ _ _ h=>h) R (jb (x:=(.eq v17)) (ja R)) ?_
       refine AtH.take [0] hgd 14 R R R R (D':=#[Y,Y,Y,Y,Y,Y,Y,Y,Y,Y,Y,Y,Y,Y,Y,N,N,N,N,N,N,N,N,N,N,N,N]) (by kernel_rfl) (fun _ _ _ _ h=>h) R (jb (x:=(.tv (kInt .i64) i9)) (ja R)) ?_
       refine AtH.take [0] hgd 15 R R R R (D':=#[Y,Y,Y,Y,Y,Y,Y,Y,Y,Y,Y,Y,Y,Y,Y,Y,N,N,N,N,N,N,N,N,N,N,N]) (by kernel_rfl) (fun _ _ _ _ h=>h) R (does_idx_row (ja R) 0 R (ja R) Tryz.underlying51 ty_50 hq14) ?_
       refine AtH.take [0] hgd 16 R R R R (D':=#[Y,Y,Y,Y,Y,Y,Y,Y,Y,Y,Y,Y,Y,Y,Y,Y,Y,N,N,N,N,N,N,N,N,N,N]) (by kernel_rfl) (fun _ _ _ _ h=>h) R (does_aidx_elem (ja R) (ji _ _) ia_50_0) ?_
       refine AtH.take [0] hgd 17 R R R R (D':=#[Y,Y,Y,Y,Y,Y,Y,Y,Y,Y,Y,Y,Y,Y,Y,Y,Y,Y,N,N,N,N,N,N,N,N,N]) (by kernel_rfl) (fun _ _ _ _ h=>h) R (Jc (ja R) 0 R i9 0 R ((⟨#[]⟩:BA),(⟨#[]⟩:BA)) hq14 sub_a50_0 ty_9) ?_
       refine AtH.take [0] hgd 18 R R R R (D':=#[Y,Y,Y,Y,Y,Y,Y,Y,Y,Y,Y,Y,Y,Y,Y,Y,Y,Y,Y,N,N,N,N,N,N,N,N]) (by kernel_rfl) (fun _ _ _ _ h=>h) R (jb (x:=(.eq v17)) (ja R)) ?_
       refine AtH.take [0] hgd 19 R R R R (D':=#[Y,Y,Y,Y,Y,Y,Y,Y,Y,Y,Y,Y,Y,Y,Y,Y,Y,Y,Y,Y,N,N,N,N,N,N,N]) (by kernel_rfl) (fun _ _ _ _ h=>h) R (jb (x:=(.tv (kInt .i64) i9)) (ja R)) ?_
       refine AtH.take [0] hgd 20 R R R R (D':=#[Y,Y,Y,Y,Y,Y,Y,Y,Y,Y,Y,Y,Y,Y,Y,Y,Y,Y,Y,Y,Y,N,N,N,N,N,N]) (by kernel_rfl) (fun _ _ _ _ h=>h) R (does_idx_row (ja R) 0 R (ja R) Tryz.underlying51 ty_50 hq14) ?_
       refine AtH.take [0] hgd 21 R R R R (D':=#[Y,Y,Y,Y,Y,Y,Y,Y,Y,Y,Y,Y,Y,Y,Y,Y,Y,Y,Y,Y,Y,Y,N,N,N,N,N]) (by kernel_rfl) (fun _ _ _ _ h=>h) R (does_aidx_elem (ja R) (ji _ _) ia_50_1) ?_
       refine AtH.take [0] hgd 22 R R R R (D':=#[Y,Y,Y,Y,Y,Y,Y,Y,Y,Y,Y,Y,Y,Y,Y,Y,Y,Y,Y,Y,Y,Y,Y,N,N,N,N]) (by kernel_rfl) (fun _ _ _ _ h=>h) R (Jc (ja R) 0 R i9 1 R ((⟨#[]⟩:BA),(⟨#[]⟩:BA)) hq14 sub_a50_1 ty_9) ?_
       refine AtH.take [0] hgd 23 R R R R (D':=#[Y,Y,Y,Y,Y,Y,Y,Y,Y,Y,Y,Y,Y,Y,Y,Y,Y,Y,Y,Y,Y,Y,Y,Y,N,N,N]) (by kernel_rfl) (fun _ _ _ _ h=>h) R (does_smax (ja R) (ja R)) ?_
       refine AtH.take [0] hgd 24 R R R R (D':=#[Y,Y,Y,Y,Y,Y,Y,Y,Y,Y,Y,Y,Y,Y,Y,Y,Y,Y,Y,Y,Y,Y,Y,Y,Y,N,N]) (by kernel_rfl) (fun _ _ _ _ h=>h) R (jz (jr (ja R) (jr (ja R) parts_nil)) zr_50 bd_50 R (fills_cons R sub_a50_0 (fills_cons R sub_a50_1 fills_nil))) ?_
       refine AtH.take [0] hgd 25 R R R R (D':=#[Y,Y,Y,Y,Y,Y,Y,Y,Y,Y,Y,Y,Y,Y,Y,Y,Y,Y,Y,Y,Y,Y,Y,Y,Y,Y,N]) (by kernel_rfl) (fun _ _ _ _ h=>h) R (does_idx_row (ja R) 0 R (ja R) Tryz.underlying51 ty_50 hq14) ?_
       refine AtH.all1 26 (by kernel_rfl) ?_
       refine AtH.eff0 [] R R R R R (eff_store_elem R R (ja R) 0 R i9 0 R ((⟨#[]⟩:BA),(⟨#[]⟩:BA)) hq14 (Sub.self (kPair kStr kStr)) ty_50 (ja R)) (D':=#[Y,Y,Y,Y,Y,Y,Y,Y,Y,Y,Y,Y,Y,Y,Y,Y,Y,Y,Y,Y,Y,Y,Y,Y,Y,Y,Y]) (by kernel_rfl) (by kernel_rfl) ?_
       rintro _ _ ⟨rfl,rfl⟩
       refine AtH.done (by kernel_rfl) ?_
       refine At.n ?_
       refine At.vh (At.region (At.d R R R R (jb (x:=(.tv (kInt .i64) i9)) (ja R)) ?_))
       refine At.d R R R R (jk (ja R) (ji _ _) vc) ?_
       refine At.d R R R R (jd (x:=(.tv (kInt .i64) (w64 (i9+(1:Int))))) (ja R)) ?_
       refine At.done (At.vh ?_)
       refine At.w [0] R [(3,(.eq v17)),(5,(.tv (kInt .i64) (w64 (i9+(1:Int)))))] ⟨R,R,trivial⟩ (At.r ⟨(x12.set i9.toNat ((sMin ((rd ((⟨#[]⟩:BA),(⟨#[]⟩:BA)) x12 i9).1) ((rd ((⟨#[]⟩:BA),(⟨#[]⟩:BA)) x12 i9).2)),(sMax ((rd ((⟨#[]⟩:BA),(⟨#[]⟩:BA)) x12 i9).1) ((rd ((⟨#[]⟩:BA),(⟨#[]⟩:BA)) x12 i9).2)))),(w64 (i9+(1:Int))),hF,R,R⟩)
      ·replace hF:=W.ite_f hb9 hF
       refine At.exit ?_
       refine At.x (At.x ?_)
       refine At.h ?_
       refine At.vh ?_
       refine At.w [0] R [(3,(.eq v17))] ⟨R,trivial⟩ (At.r ⟨x12,hF,R,R⟩)
    ·rintro _ _ ⟨x9,hF,rfl,rfl⟩
     unfold ref13_Sides.c3 at hF
     refine At.seq (At.region (At.d R R R R (jb (x:=(.eq v17)) (ja R)) ?_))
     refine At.d R R R R (jd (x:=(.eq v17)) (ja R)) ?_
     refine At.done (At.vh (At.ret ?_))
     exact At.j rfl (rv_tmp rfl) [0] rfl ⟨x9,_,hF,rfl,rfl⟩
def ref13_Find.c1 (m1:Map) (id1:BA) (from4:Int):W Int:=W.req ((decide (from4<(m1.Objects.length:Int)))=true→0≤from4∧from4<(m1.Objects.length:Int)) (W.ite ((decide (from4<(m1.Objects.length:Int)))&&(sEq ((rd zObject m1.Objects from4).Id) id1)) (W.ret from4) (W.ret (-1:Int)))
def ref13_Find.l1 (m1:Map) (id1:BA) (K1:Int→W Int) (A1:Int→Int→W Int) (from7:Int) (to6:Int):W Int:=W.ite (decide (from7<to6)) (W.req (0≤(w64 (Int.tdiv (w64 (from7+to6)) (2:Int)))∧(w64 (Int.tdiv (w64 (from7+to6)) (2:Int)))<(m1.Objects.length:Int)) (W.ite (sLt ((rd zObject m1.Objects (w64 (Int.tdiv (w64 (from7+to6)) (2:Int)))).Id) id1) (A1 (w64 ((w64 (Int.tdiv (w64 (from7+to6)) (2:Int)))+(1:Int))) to6) (A1 from7 (w64 (Int.tdiv (w64 (from7+to6)) (2:Int)))))) (K1 from7)
def ref13_Find.F (m1:Map) (id1:BA):W Int:=W.ex fun n=>W.iter2 (ref13_Find.l1 m1 id1 (ref13_Find.c1 m1 id1)) n (0:Int) (m1.Objects.length:Int)
theorem ref13_Find.ok {m1:Map} {id1:BA} {Q:Int→Prop} (hF:ref13_Find.F m1 id1 Q):Con Tryz.prog 87 [.tv kMap m1,.tv kStr id1] [] (fun ta rs'=>∃ (r:Int),Q r∧ta=.tv (kInt .i64) r∧rs'=[]):=by
 refine Con.i Tryz.func87 Tryz.ntmps87 R R (fun C=>?_)
 unfold ref13_Find.F at hF
 refine At.seq (At.region (At.f R (jw R R R (ja R)) ?_))
 rintro _ _ ⟨g1,rfl,rfl⟩
 refine At.d R R R R (jd (x:=(.tv (kInt .i64) (0:Int))) (ji _ _)) ?_
 refine At.done (At.vh (At.seq (At.region (At.d R R R R (jd (x:=(.tv (kInt .i64) (0:Int))) (ji _ _)) ?_))))
 refine At.done (At.vh (At.seq (At.region (At.d R R R R (je (ja R) fa_24_0) ?_))))
 refine At.d R R R R (jc (ja R) 0 R sub_Map_0 ty_22) ?_
 refine At.d R R R R (js (ja R) Tryz.underlying22) ?_
 refine At.d R R R R (jd (x:=(.tv (kInt .i64) (m1.Objects.length:Int))) (ja R)) ?_
 refine At.done (At.vh ?_)
 refine At.cut (fun rs L=>∃ (from4:Int),ref13_Find.c1 m1 id1 from4 Q∧rs=[.box g1 24 kMap m1]∧L=mkL [(1,(.tv kStr id1)),(2,(.eq (.pointer (some ⟨g1,0,none⟩)))),(5,(.tv (kInt .i64) from4))]) ?_ ?_
 ·refine At.block ?_
  obtain ⟨n1,hF⟩:=hF
  refine At.w [0] R [(1,(.tv kStr id1)),(2,(.eq (.pointer (some ⟨g1,0,none⟩)))),(5,(.tv (kInt .i64) (0:Int))),(6,(.tv (kInt .i64) (m1.Objects.length:Int)))] ⟨R,R,R,R,trivial⟩ ?_
  refine At.loop (fun m rs L=>∃ (from7:Int) (to6:Int),W.iter2 (ref13_Find.l1 m1 id1 (ref13_Find.c1 m1 id1)) m from7 to6 Q∧rs=[.box g1 24 kMap m1]∧L=mkL [(1,(.tv kStr id1)),(2,(.eq (.pointer (some ⟨g1,0,none⟩)))),(5,(.tv (kInt .i64) from7)),(6,(.tv (kInt .i64) to6))]) ?_ ?_ (m:=n1) ⟨(0:Int),(m1.Objects.length:Int),hF,R,R⟩
  ·rintro rs L ⟨_,_,hF,_,_⟩;exact hF
  ·rintro m2 _ _ ⟨from7,to6,hF,rfl,rfl⟩
   replace hF:=W.iter2_s hF
   unfold ref13_Find.l1 at hF
   refine At.seq (At.seq (At.region (At.d R R R R (jb (x:=(.tv (kInt .i64) from7)) (ja R)) ?_)))
   refine At.d R R R R (jb (x:=(.tv (kInt .i64) to6)) (ja R)) ?_
   refine At.d R R R R (jk (ja R) (ja R) vd) ?_
   refine At.done (At.vh ?_)
   refine At.cond (ja R) (fun hb10=>?_) (fun hb10=>?_)
   ·replace hF:=W.ite_t hb10 hF
    refine At.skip (At.vh (At.block (At.seq (At.region (At.d R R R R (jb (x:=(.tv (kInt .i64) from7)) (ja R)) ?_)))))
    refine At.d R R R R (jb (x:=(.tv (kInt .i64) to6)) (ja R)) ?_
    refine At.d R R R R (jk (ja R) (ja R) vc) ?_
    refine At.d R R R R (jk (ja R) (ji _ _) (bin_quo (by decide))) ?_
    refine At.d R R R R (jd (x:=(.tv (kInt .i64) (w64 (Int.tdiv (w64 (from7+to6)) (2:Int))))) (ja R)) ?_
    refine At.done (At.vh (At.seq (At.region (At.d R R R R (je (ja R) fa_24_0) ?_))))
    refine At.d R R R R (jc (ja R) 0 R sub_Map_0 ty_22) ?_
    refine At.d R R R R (jb (x:=(.tv (kInt .i64) (w64 (Int.tdiv (w64 (from7+to6)) (2:Int))))) (ja R)) ?_
    obtain ⟨hq6,hF⟩:=hF
    refine At.d R R R R (vf zObject (ja R) (ja R) Tryz.underlying22 ty_59 hq6) ?_
    refine At.d R R R R (Jd (K:=kObject) (ja R) fa_59_0 sub_Object_0) ?_
    refine At.d R R R R (vq (K:=kStr) (ja R) ty_9) ?_
    refine At.d R R R R (jb (x:=(.tv kStr id1)) (ja R)) ?_
    refine At.d R R R R (jk (ja R) (ja R) bin_slss) ?_
    refine At.done (At.vh ?_)
    refine At.cond (ja R) (fun hb11=>?_) (fun hb11=>?_)
    ·replace hF:=W.ite_t hb11 hF
     refine At.region (At.d R R R R (jb (x:=(.tv (kInt .i64) (w64 (Int.tdiv (w64 (from7+to6)) (2:Int))))) (ja R)) ?_)
     refine At.d R R R R (jk (ja R) (ji _ _) vc) ?_
     refine At.d R R R R (jd (x:=(.tv (kInt .i64) (w64 ((w64 (Int.tdiv (w64 (from7+to6)) (2:Int)))+(1:Int))))) (ja R)) ?_
     refine At.done ?_
     refine At.n ?_
     refine At.vh ?_
     refine At.w [0] R [(1,(.tv kStr id1)),(2,(.eq (.pointer (some ⟨g1,0,none⟩)))),(5,(.tv (kInt .i64) (w64 ((w64 (Int.tdiv (w64 (from7+to6)) (2:Int)))+(1:Int))))),(6,(.tv (kInt .i64) to6))] ⟨R,R,R,R,trivial⟩ (At.r ⟨(w64 ((w64 (Int.tdiv (w64 (from7+to6)) (2:Int)))+(1:Int))),to6,hF,R,R⟩)
    ·replace hF:=W.ite_f hb11 hF
     refine At.region (At.d R R R R (jb (x:=(.tv (kInt .i64) (w64 (Int.tdiv (w64 (from7+to6)) (2:Int))))) (ja R)) ?_)
     refine At.d R R R R (jd (x:=(.tv (kInt .i64) (w64 (Int.tdiv (w64 (from7+to6)) (2:Int))))) (ja R)) ?_
     refine At.done ?_
     refine At.n ?_
     refine At.vh ?_
     refine At.w [0] R [(1,(.tv kStr id1)),(2,(.eq (.pointer (some ⟨g1,0,none⟩)))),(5,(.tv (kInt .i64) from7)),(6,(.tv (kInt .i64) (w64 (Int.tdiv (w64 (from7+to6)) (2:Int)))))] ⟨R,R,R,R,trivial⟩ (At.r ⟨from7,(w64 (Int.tdiv (w64 (from7+to6)) (2:Int))),hF,R,R⟩)
   ·replace hF:=W.ite_f hb10 hF
    refine At.exit ?_
    refine At.x (At.x ?_)
    refine At.h ?_
    refine At.vh ?_
    refine At.w [0] R [(1,(.tv kStr id1)),(2,(.eq (.pointer (some ⟨g1,0,none⟩)))),(5,(.tv (kInt .i64) from7))] ⟨R,R,R,trivial⟩ (At.r ⟨from7,hF,R,R⟩)
 ·rintro _ _ ⟨from4,hF,rfl,rfl⟩
  unfold ref13_Find.c1 at hF
  refine At.seq (At.seq (At.region (At.d R R R R (jb (x:=(.tv (kInt .i64) from4)) (ja R)) ?_)))
  refine At.d R R R R (je (ja R) fa_24_0) ?_
  refine At.d R R R R (jc (ja R) 0 R sub_Map_0 ty_22) ?_
  refine At.d R R R R (js (ja R) Tryz.underlying22) ?_
  refine At.d R R R R (jk (ja R) (ja R) vd) ?_
  refine At.d R R R R (jb (x:=(.tv kBool (decide (from4<(m1.Objects.length:Int))))) (ja R)) ?_
  refine At.vj R R R R (ju R) R (fun hg1=>(je (ja R) fa_24_0)) ?_
  refine At.vj R R R R (ju R) R (fun hg2=>(jc (jh R hg2) 0 R sub_Map_0 ty_22)) ?_
  refine At.vj R R R R (ju R) R (fun hg3=>(jb (x:=(.tv (kInt .i64) from4)) (ja R))) ?_
  obtain ⟨hq3,hF⟩:=hF
  refine At.vj R R R R (ju R) R (fun hg4=>(vf zObject (jh R hg4) (jh R hg4) Tryz.underlying22 ty_59 (hq3 hg4))) ?_
  refine At.vj R R R R (ju R) R (fun hg5=>(Jd (K:=kObject) (jh R hg5) fa_59_0 sub_Object_0)) ?_
  refine At.vj R R R R (ju R) R (fun hg6=>(vq (K:=kStr) (jh R hg6) ty_9)) ?_
  refine At.vj R R R R (ju R) R (fun hg7=>(jb (x:=(.tv kStr id1)) (ja R))) ?_
  refine At.vj R R R R (ju R) R (fun hg8=>(jk (jh R hg8) (jh R hg8) bin_seql)) ?_
  refine At.d R R R R (jm (ja R) (ja R) (jl _) ve) ?_
  refine At.done (At.vh ?_)
  refine At.cond (ja R) (fun hb5=>?_) (fun hb5=>?_)
  ·replace hF:=W.ite_t hb5 hF
   refine At.seq (At.region (At.d R R R R (jb (x:=(.tv (kInt .i64) from4)) (ja R)) ?_))
   refine At.d R R R R (jd (x:=(.tv (kInt .i64) from4)) (ja R)) ?_
   refine At.done (At.vh (At.ret (At.vi ?_)))
   exact At.j rfl (rv_tmp rfl) [] rfl ⟨from4,hF,rfl,rfl⟩
  ·replace hF:=W.ite_f hb5 hF
   refine At.skip (At.vh (At.seq (At.region (At.d R R R R (jd (x:=(.tv (kInt .i64) (-1:Int))) (ji _ _)) ?_))))
   refine At.done (At.vh (At.ret ?_))
   exact At.j rfl (rv_tmp rfl) [] rfl ⟨(-1:Int),hF,rfl,rfl⟩
def ref13_kind.F (o1:Object) (i1:Int):W Int:=W.ite ((o1.Kind==(4:Int))||((o1.Kind==(5:Int))&&(i1 != (1:Int)))) (W.ret (2:Int)) (W.ret (1:Int))
theorem ref13_kind.ok {o1:Object} {i1:Int} {Q:Int→Prop} (hF:ref13_kind.F o1 i1 Q):Con Tryz.prog 88 [.tv kObject o1,.tv (kInt .i64) i1] [] (fun ta rs'=>∃ (r:Int),Q r∧ta=.tv (kInt .i64) r∧rs'=[]):=by
 refine Con.i Tryz.func88 Tryz.ntmps88 R R (fun C=>?_)
 unfold ref13_kind.F at hF
 refine At.seq (At.region (At.f R (jw R R R (ja R)) ?_))
 rintro _ _ ⟨g1,rfl,rfl⟩
 refine At.d R R R R (jd (x:=(.tv (kInt .i64) (0:Int))) (ji _ _)) ?_
 refine At.done (At.vh (At.seq (At.seq (At.region (At.d R R R R (je (ja R) fa_59_1) ?_)))))
 refine At.d R R R R (jc (ja R) 0 R sub_Object_1 ty_3) ?_
 refine At.d R R R R (jk (ja R) (ji _ _) bin_eql) ?_
 refine At.d R R R R (jb (x:=(.tv kBool (o1.Kind==(4:Int)))) (ja R)) ?_
 refine At.vj R R R R (jv R) R (fun hg1=>(je (ja R) fa_59_1)) ?_
 refine At.vj R R R R (jv R) R (fun hg2=>(jc (jh R hg2) 0 R sub_Object_1 ty_3)) ?_
 refine At.vj R R R R (jv R) R (fun hg3=>(jk (jh R hg3) (ji _ _) bin_eql)) ?_
 refine At.vj R R R R (jv R) R (fun hg4=>(jb (x:=(.tv kBool (o1.Kind==(5:Int)))) (jh R hg4))) ?_
 refine At.vj R R R R (jt R) R (fun hg5=>(jb (x:=(.tv (kInt .i64) i1)) (ja R))) ?_
 refine At.vj R R R R (jt R) R (fun hg6=>(jk (jh R hg6) (ji _ _) bin_neq)) ?_
 refine At.vj R R R R (jv R) R (fun hg7=>(jm (jh R hg7) (ja R) (jl _) (pick_andG (and_of hg7)))) ?_
 refine At.d R R R R (jm (ja R) (jl _) (ja R) pick_or) ?_
 refine At.done (At.vh ?_)
 refine At.cond (ja R) (fun hb1=>?_) (fun hb1=>?_)
 ·replace hF:=W.ite_t hb1 hF
  refine At.seq (At.region (At.d R R R R (jd (x:=(.tv (kInt .i64) (2:Int))) (ji _ _)) ?_))
  refine At.done (At.vh (At.ret (At.vi ?_)))
  exact At.j rfl (rv_tmp rfl) [] rfl ⟨(2:Int),hF,rfl,rfl⟩
 ·replace hF:=W.ite_f hb1 hF
  refine At.skip (At.vh (At.seq (At.region (At.d R R R R (jd (x:=(.tv (kInt .i64) (1:Int))) (ji _ _)) ?_))))
  refine At.done (At.vh (At.ret ?_))
  exact At.j rfl (rv_tmp rfl) [] rfl ⟨(1:Int),hF,rfl,rfl⟩
def ref13_Sound.c1:W Bool:=W.ret true
def ref13_Sound.l1 (self:Map→Object→W Bool) (m1:Map) (o1:Object) (K1:W Bool) (A1:Int→W Bool) (i6:Int):W Bool:=W.ite (decide (i6<(o1.Refs.length:Int))) (W.req (0≤i6∧i6<(o1.Refs.length:Int)) (W.bind (ref13_Find.F m1 (rd (⟨#[]⟩:BA) o1.Refs i6)) (fun r13=>W.req ((!(decide (r13<(0:Int))))=true→0≤r13∧r13<(m1.Objects.length:Int)) (W.bind (W.ite (!(decide (r13<(0:Int)))) (ref13_kind.F o1 i6) (W.ret (0:Int))) (fun r14=>W.req ((!((decide (r13<(0:Int)))||(((rd zObject m1.Objects r13).Kind) != r14)))=true→0≤r13∧r13<(m1.Objects.length:Int)) (W.bind (W.ite (!((decide (r13<(0:Int)))||(((rd zObject m1.Objects r13).Kind) != r14))) (self m1 (rd zObject m1.Objects r13)) (W.ret false)) (fun r15=>W.ite (((decide (r13<(0:Int)))||(((rd zObject m1.Objects r13).Kind) != r14))||(!r15)) (W.ret false) (A1 (w64 (i6+(1:Int))))))))))) (K1)
def ref13_Sound.G (self:Map→Object→W Bool) (m1:Map) (o1:Object):W Bool:=W.ex fun n=>W.iter1 (ref13_Sound.l1 self m1 o1 (ref13_Sound.c1)) n (0:Int)
def ref13_Sound.Fn:Nat→Map→Object→W Bool
 | 0=>fun _ _=>W.fail
 | n+1=>ref13_Sound.G (ref13_Sound.Fn n)
def ref13_Sound.F (m1:Map) (o1:Object):W Bool:=W.ex fun n=>ref13_Sound.Fn n m1 o1
theorem ref13_Sound.okn (n:Nat):∀ {m1:Map} {o1:Object} {Q:Bool→Prop},ref13_Sound.Fn n m1 o1 Q→Con Tryz.prog 52 [.tv kMap m1,.tv kObject o1] [] (fun ta rs'=>∃ (r:Bool),Q r∧ta=.tv kBool r∧rs'=[]):=by
 induction n with
 | zero=>intro m1 o1 Q hF;exact False.elim hF
 | succ n ih=>
  intro m1 o1 Q hF
  replace hF:ref13_Sound.G (ref13_Sound.Fn n) m1 o1 Q:=hF
  refine Con.i Tryz.func52 Tryz.ntmps52 R R (fun C=>?_)
  unfold ref13_Sound.G at hF
  refine At.seq (At.region (At.f R (jw R R R (ja R)) ?_))
  rintro _ _ ⟨g1,rfl,rfl⟩
  refine At.f R (jw R R R (ja R)) ?_
  rintro _ _ ⟨g2,rfl,rfl⟩
  refine At.d R R R R (jd (x:=(.tv kBool false)) (jl _)) ?_
  refine At.done (At.vh ?_)
  refine At.cut (fun rs L=>∃ _:Unit,ref13_Sound.c1 Q∧rs=[]∧L=mkL []) ?_ ?_
  ·refine At.seq (At.region (At.d R R R R (jd (x:=(.tv (kInt .i64) (0:Int))) (ji _ _)) ?_))
   refine At.done (At.vh (At.block ?_))
   obtain ⟨n1,hF⟩:=hF
   refine At.w [1,0] R [(2,(.eq (.pointer (some ⟨g1,0,none⟩)))),(3,(.eq (.pointer (some ⟨g2,0,none⟩)))),(5,(.tv (kInt .i64) (0:Int)))] ⟨R,R,R,trivial⟩ ?_
   refine At.loop (fun m rs L=>∃ (i6:Int),W.iter1 (ref13_Sound.l1 (ref13_Sound.Fn n) m1 o1 (ref13_Sound.c1)) m i6 Q∧rs=[.box g1 24 kMap m1,.box g2 59 kObject o1]∧L=mkL [(2,(.eq (.pointer (some ⟨g1,0,none⟩)))),(3,(.eq (.pointer (some ⟨g2,0,none⟩)))),(5,(.tv (kInt .i64) i6))]) ?_ ?_ (m:=n1) ⟨(0:Int),hF,R,R⟩
   ·rintro rs L ⟨_,hF,_,_⟩;exact hF
   ·rintro m2 _ _ ⟨i6,hF,rfl,rfl⟩
    replace hF:=W.iter1_s hF
    unfold ref13_Sound.l1 at hF
    refine At.seq (At.seq (At.region (At.d R R R R (jb (x:=(.tv (kInt .i64) i6)) (ja R)) ?_)))
    refine At.d R R R R (je (ja R) fa_59_3) ?_
    refine At.d R R R R (jc (ja R) 1 R sub_Object_3 ty_41) ?_
    refine At.d R R R R (js (ja R) Tryz.underlying41) ?_
    refine At.d R R R R (jk (ja R) (ja R) vd) ?_
    refine At.done (At.vh ?_)
    refine At.cond (ja R) (fun hb9=>?_) (fun hb9=>?_)
    ·replace hF:=W.ite_t hb9 hF
     refine At.skip (At.vh (At.seq (At.block (At.seq ?_))))
     refine At.draw mixed [0,1] R [[],[]] (fun φ w hgd=>?_)
     obtain ⟨hq13,hF⟩:=hF
     replace hF:=W.vm hF
     refine AtH.take [0,1] hgd 0 R R R R (D':=#[Y,N,N,N,N,N,N,N]) (by kernel_rfl) (fun _ _ _ _ h=>h) R (jc (ja R) 0 R (Sub.self kMap) ty_24) ?_
     refine AtH.take [0,1] hgd 1 R R R R (D':=#[Y,Y,N,N,N,N,N,N]) (by kernel_rfl) (fun _ _ _ _ h=>h) R (je (ja R) fa_59_3) ?_
     refine AtH.take [0,1] hgd 2 R R R R (D':=#[Y,Y,Y,N,N,N,N,N]) (by kernel_rfl) (fun _ _ _ _ h=>h) R (jc (ja R) 1 R sub_Object_3 ty_41) ?_
     refine AtH.take [0,1] hgd 3 R R R R (D':=#[Y,Y,Y,Y,N,N,N,N]) (by kernel_rfl) (fun _ _ _ _ h=>h) R (jb (x:=(.tv (kInt .i64) i6)) (ja R)) ?_
     refine AtH.take [0,1] hgd 4 R R R R (D':=#[Y,Y,Y,Y,Y,N,N,N]) (by kernel_rfl) (fun _ _ _ _ h=>h) R (vf (⟨#[]⟩:BA) (ja R) (ja R) Tryz.underlying41 ty_9 hq13) ?_
     refine AtH.take [0,1] hgd 5 R R R R (D':=#[Y,Y,Y,Y,Y,Y,N,N]) (by kernel_rfl) (fun _ _ _ _ h=>h) R (vq (K:=kStr) (ja R) ty_9) ?_
     refine AtH.all1 6 (by kernel_rfl) ?_
     refine AtH.f [(0,0),(1,1)] R R R R R R (jn R R jp (jq R en_87 (jf (ja R) (jf (ja R) jg))) (ref13_Find.ok hF) (by rintro _ _ ⟨r,_,rfl,_⟩;exact flat_int)) (D':=#[Y,Y,Y,Y,Y,Y,Y,N]) (by kernel_rfl) (by kernel_rfl) ?_
     rintro _ _ ⟨_,_,⟨r13,hF,rfl,rfl⟩,rfl,rfl⟩
     refine ⟨_,.inr ⟨R,flat_int⟩,?_⟩
     refine AtH.take [0,1] hgd 7 R R R R (D':=#[Y,Y,Y,Y,Y,Y,Y,Y]) (by kernel_rfl) (fun _ _ _ _ h=>h) R (jd (x:=(.tv (kInt .i64) r13)) (ja R)) ?_
     refine AtH.done (by kernel_rfl) ?_
     refine At.vh (At.seq ?_)
     refine At.draw mixed [0,1] R [[],[]] (fun φ w hgd=>?_)
     obtain ⟨hq14,hF⟩:=hF
     replace hF:=W.vm hF
     refine AtH.take [0,1] hgd 0 R R R R (D':=#[Y,N,N,N,N,N,N,N,N,N,N,N,N,N,N,N,N,N,N,N,N,N,N,N]) (by kernel_rfl) (fun _ _ _ _ h=>h) R (jb (x:=(.tv (kInt .i64) r13)) (ja R)) ?_
     refine AtH.take [0,1] hgd 1 R R R R (D':=#[Y,Y,N,N,N,N,N,N,N,N,N,N,N,N,N,N,N,N,N,N,N,N,N,N]) (by kernel_rfl) (fun _ _ _ _ h=>h) R (jk (ja R) (ji _ _) vd) ?_
     refine AtH.take [0,1] hgd 2 R R R R (D':=#[Y,Y,Y,N,N,N,N,N,N,N,N,N,N,N,N,N,N,N,N,N,N,N,N,N]) (by kernel_rfl) (fun _ _ _ _ h=>h) R (jb (x:=(.tv kBool (decide (r13<(0:Int))))) (ja R)) ?_
     refine AtH.vk [0,1] hgd 3 R R R (jv R) R R (D':=#[Y,Y,Y,Y,N,N,N,N,N,N,N,N,N,N,N,N,N,N,N,N,N,N,N,N]) (by kernel_rfl) (fun _ _ _ _ h=>h) R (fun hg153=>(je (ja R) fa_24_0)) ?_
     refine AtH.vk [0,1] hgd 4 R R R (jv R) R R (D':=#[Y,Y,Y,Y,Y,N,N,N,N,N,N,N,N,N,N,N,N,N,N,N,N,N,N,N]) (by kernel_rfl) (fun _ _ _ _ h=>h) R (fun hg154=>(jc (jh R hg154) 0 R sub_Map_0 ty_22)) ?_
     refine AtH.vk [0,1] hgd 5 R R R (jv R) R R (D':=#[Y,Y,Y,Y,Y,Y,N,N,N,N,N,N,N,N,N,N,N,N,N,N,N,N,N,N]) (by kernel_rfl) (fun _ _ _ _ h=>h) R (fun hg155=>(jb (x:=(.tv (kInt .i64) r13)) (ja R))) ?_
     refine AtH.vk [0,1] hgd 6 R R R (jv R) R R (D':=#[Y,Y,Y,Y,Y,Y,Y,N,N,N,N,N,N,N,N,N,N,N,N,N,N,N,N,N]) (by kernel_rfl) (fun _ _ _ _ h=>h) R (fun hg156=>(vf zObject (jh R hg156) (jh R hg156) Tryz.underlying22 ty_59 (hq14 hg156))) ?_
     refine AtH.vk [0,1] hgd 7 R R R (jv R) R R (D':=#[Y,Y,Y,Y,Y,Y,Y,Y,N,N,N,N,N,N,N,N,N,N,N,N,N,N,N,N]) (by kernel_rfl) (fun _ _ _ _ h=>h) R (fun hg157=>(Jd (K:=kObject) (jh R hg157) fa_59_1 sub_Object_1)) ?_
     refine AtH.vk [0,1] hgd 8 R R R (jv R) R R (D':=#[Y,Y,Y,Y,Y,Y,Y,Y,Y,N,N,N,N,N,N,N,N,N,N,N,N,N,N,N]) (by kernel_rfl) (fun _ _ _ _ h=>h) R (fun hg158=>(vq (K:=(kInt .i64)) (jh R hg158) ty_3)) ?_
     refine AtH.vk [0,1] hgd 9 R R R (jv R) R R (D':=#[Y,Y,Y,Y,Y,Y,Y,Y,Y,Y,N,N,N,N,N,N,N,N,N,N,N,N,N,N]) (by kernel_rfl) (fun _ _ _ _ h=>h) R (fun hg159=>(jc (ja R) 1 R (Sub.self kObject) ty_59)) ?_
     refine AtH.vk [0,1] hgd 10 R R R (jv R) R R (D':=#[Y,Y,Y,Y,Y,Y,Y,Y,Y,Y,Y,N,N,N,N,N,N,N,N,N,N,N,N,N]) (by kernel_rfl) (fun _ _ _ _ h=>h) R (fun hg160=>(jb (x:=(.tv (kInt .i64) i6)) (ja R))) ?_
     refine AtH.all1 11 (by kernel_rfl) ?_
     refine AtH.effG [(0,0),(1,1)] R R R R R R R (jv R) (D':=#[Y,Y,Y,Y,Y,Y,Y,Y,Y,Y,Y,Y,N,N,N,N,N,N,N,N,N,N,N,N]) (by kernel_rfl) (by kernel_rfl) hF (fun r=>.tv (kInt .i64) r) (fun _=>flat_int) (fun hg161 hF=>eff_of (jn R R jp (jq R en_88 (jf (jh R hg161) (jf (jh R hg161) jg))) (ref13_kind.ok hF) (by rintro _ _ ⟨r,_,rfl,_⟩;exact flat_int)) (by rintro _ _ ⟨_,_,⟨r,hF,rfl,rfl⟩,rfl,rfl⟩;exact ⟨r,hF,R,R⟩)) (fun r14 hF=>?_)
     obtain ⟨hq15,hF⟩:=hF
     replace hF:=W.vm hF
     refine AtH.vk [0,1] hgd 12 R R R (jv R) R R (D':=#[Y,Y,Y,Y,Y,Y,Y,Y,Y,Y,Y,Y,Y,N,N,N,N,N,N,N,N,N,N,N]) (by kernel_rfl) (fun _ _ _ _ h=>h) R (fun hg162=>(jk (jh R hg162) (jh R hg162) bin_neq)) ?_
     refine AtH.take [0,1] hgd 13 R R R R (D':=#[Y,Y,Y,Y,Y,Y,Y,Y,Y,Y,Y,Y,Y,Y,N,N,N,N,N,N,N,N,N,N]) (by kernel_rfl) (fun _ _ _ _ h=>h) R (jm (ja R) (jl _) (ja R) pick_or) ?_
     refine AtH.take [0,1] hgd 14 R R R R (D':=#[Y,Y,Y,Y,Y,Y,Y,Y,Y,Y,Y,Y,Y,Y,Y,N,N,N,N,N,N,N,N,N]) (by kernel_rfl) (fun _ _ _ _ h=>h) R (jb (x:=(.tv kBool ((decide (r13<(0:Int)))||(((rd zObject m1.Objects r13).Kind) != r14)))) (ja R)) ?_
     refine AtH.vk [0,1] hgd 15 R R R (jv R) R R (D':=#[Y,Y,Y,Y,Y,Y,Y,Y,Y,Y,Y,Y,Y,Y,Y,Y,N,N,N,N,N,N,N,N]) (by kernel_rfl) (fun _ _ _ _ h=>h) R (fun hg163=>(jc (ja R) 0 R (Sub.self kMap) ty_24)) ?_
     refine AtH.vk [0,1] hgd 16 R R R (jv R) R R (D':=#[Y,Y,Y,Y,Y,Y,Y,Y,Y,Y,Y,Y,Y,Y,Y,Y,Y,N,N,N,N,N,N,N]) (by kernel_rfl) (fun _ _ _ _ h=>h) R (fun hg164=>(je (ja R) fa_24_0)) ?_
     refine AtH.vk [0,1] hgd 17 R R R (jv R) R R (D':=#[Y,Y,Y,Y,Y,Y,Y,Y,Y,Y,Y,Y,Y,Y,Y,Y,Y,Y,N,N,N,N,N,N]) (by kernel_rfl) (fun _ _ _ _ h=>h) R (fun hg165=>(jc (jh R hg165) 0 R sub_Map_0 ty_22)) ?_
     refine AtH.vk [0,1] hgd 18 R R R (jv R) R R (D':=#[Y,Y,Y,Y,Y,Y,Y,Y,Y,Y,Y,Y,Y,Y,Y,Y,Y,Y,Y,N,N,N,N,N]) (by kernel_rfl) (fun _ _ _ _ h=>h) R (fun hg166=>(jb (x:=(.tv (kInt .i64) r13)) (ja R))) ?_
     refine AtH.vk [0,1] hgd 19 R R R (jv R) R R (D':=#[Y,Y,Y,Y,Y,Y,Y,Y,Y,Y,Y,Y,Y,Y,Y,Y,Y,Y,Y,Y,N,N,N,N]) (by kernel_rfl) (fun _ _ _ _ h=>h) R (fun hg167=>(vf zObject (jh R hg167) (jh R hg167) Tryz.underlying22 ty_59 (hq15 hg167))) ?_
     refine AtH.vk [0,1] hgd 20 R R R (jv R) R R (D':=#[Y,Y,Y,Y,Y,Y,Y,Y,Y,Y,Y,Y,Y,Y,Y,Y,Y,Y,Y,Y,Y,N,N,N]) (by kernel_rfl) (fun _ _ _ _ h=>h) R (fun hg168=>(vq (K:=kObject) (jh R hg168) ty_59)) ?_
     refine AtH.all1 21 (by kernel_rfl) ?_
     refine AtH.effG [(0,0),(1,1)] R R R R R R R (jv R) (D':=#[Y,Y,Y,Y,Y,Y,Y,Y,Y,Y,Y,Y,Y,Y,Y,Y,Y,Y,Y,Y,Y,Y,N,N]) (by kernel_rfl) (by kernel_rfl) hF (fun r=>.tv kBool r) (fun _=>vl) (fun hg169 hF=>eff_of (jn R R jp (jq R en_52 (jf (jh R hg169) (jf (jh R hg169) jg))) (ih hF) (by rintro _ _ ⟨r,_,rfl,_⟩;exact vl)) (by rintro _ _ ⟨_,_,⟨r,hF,rfl,rfl⟩,rfl,rfl⟩;exact ⟨r,hF,R,R⟩)) (fun r15 hF=>?_)
     refine AtH.vk [0,1] hgd 22 R R R (jv R) R R (D':=#[Y,Y,Y,Y,Y,Y,Y,Y,Y,Y,Y,Y,Y,Y,Y,Y,Y,Y,Y,Y,Y,Y,Y,N]) (by kernel_rfl) (fun _ _ _ _ h=>h) R (fun hg170=>(does_not (jh R hg170))) ?_
     refine AtH.take [0,1] hgd 23 R R R R (D':=#[Y,Y,Y,Y,Y,Y,Y,Y,Y,Y,Y,Y,Y,Y,Y,Y,Y,Y,Y,Y,Y,Y,Y,Y]) (by kernel_rfl) (fun _ _ _ _ h=>h) R (jm (ja R) (jl _) (ja R) pick_or) ?_
     refine AtH.done (by kernel_rfl) ?_
     refine At.vh ?_
     refine At.cond (ja R) (fun hb10=>?_) (fun hb10=>?_)
     ·replace hF:=W.ite_t hb10 hF
      refine At.seq (At.region (At.d R R R R (jd (x:=(.tv kBool false)) (jl _)) ?_))
      refine At.done (At.vh (At.ret ?_))
      refine At.q ?_
      refine At.vi (At.vi ?_)
      refine At.q ?_
      refine At.vi ?_
      exact At.j rfl (rv_tmp rfl) [] rfl ⟨false,hF,rfl,rfl⟩
     ·replace hF:=W.ite_f hb10 hF
      refine At.skip ?_
      refine At.n ?_
      refine At.vh (At.region (At.d R R R R (jb (x:=(.tv (kInt .i64) i6)) (ja R)) ?_))
      refine At.d R R R R (jk (ja R) (ji _ _) vc) ?_
      refine At.d R R R R (jd (x:=(.tv (kInt .i64) (w64 (i6+(1:Int))))) (ja R)) ?_
      refine At.done (At.vh ?_)
      refine At.w [0,1] R [(2,(.eq (.pointer (some ⟨g1,0,none⟩)))),(3,(.eq (.pointer (some ⟨g2,0,none⟩)))),(5,(.tv (kInt .i64) (w64 (i6+(1:Int)))))] ⟨R,R,R,trivial⟩ (At.r ⟨(w64 (i6+(1:Int))),hF,R,R⟩)
    ·replace hF:=W.ite_f hb9 hF
     refine At.exit ?_
     refine At.x (At.x ?_)
     refine At.h ?_
     refine At.vh ?_
     refine At.w [] R [] trivial (At.r ⟨(),hF,R,R⟩)
  ·rintro _ _ ⟨_,hF,rfl,rfl⟩
   unfold ref13_Sound.c1 at hF
   refine At.seq (At.region (At.d R R R R (jd (x:=(.tv kBool true)) (jl _)) ?_))
   refine At.done (At.vh (At.ret ?_))
   exact At.j rfl (rv_tmp rfl) [] rfl ⟨true,hF,rfl,rfl⟩
theorem ref13_Sound.ok {m1:Map} {o1:Object} {Q:Bool→Prop} (hF:ref13_Sound.F m1 o1 Q):Con Tryz.prog 52 [.tv kMap m1,.tv kObject o1] [] (fun ta rs'=>∃ (r:Bool),Q r∧ta=.tv kBool r∧rs'=[]):=by
 obtain ⟨n,hF⟩:=hF
 exact ref13_Sound.okn n hF
def ref08_letter.F (c1:Int):W Bool:=W.ret (((decide ((97:Int)≤c1))&&(decide (c1≤(122:Int))))||((decide ((65:Int)≤c1))&&(decide (c1≤(90:Int)))))
theorem ref08_letter.ok {c1:Int} {Q:Bool→Prop} (hF:ref08_letter.F c1 Q):Con Tryz.prog 154 [.tv (kInt .u8) c1] [] (fun ta rs'=>∃ (r:Bool),Q r∧ta=.tv kBool r∧rs'=[]):=by
 refine Con.i Tryz.func154 Tryz.ntmps154 R R (fun C=>?_)
 unfold ref08_letter.F at hF
 refine At.seq (At.region (At.d R R R R (jd (x:=(.tv kBool false)) (jl _)) ?_))
 refine At.done (At.vh (At.seq (At.region (At.d R R R R (jb (x:=(.tv (kInt .u8) c1)) (ja R)) ?_))))
 refine At.d R R R R (jk (ja R) (ji _ _) bin_geq) ?_
 refine At.d R R R R (jb (x:=(.tv kBool (decide ((97:Int)≤c1)))) (ja R)) ?_
 refine At.vj R R R R (ju R) R (fun hg1=>(jb (x:=(.tv (kInt .u8) c1)) (ja R))) ?_
 refine At.vj R R R R (ju R) R (fun hg2=>(jk (jh R hg2) (ji _ _) bin_leq)) ?_
 refine At.d R R R R (jm (ja R) (ja R) (jl _) ve) ?_
 refine At.d R R R R (jb (x:=(.tv kBool ((decide ((97:Int)≤c1))&&(decide (c1≤(122:Int)))))) (ja R)) ?_
 refine At.vj R R R R (jv R) R (fun hg3=>(jb (x:=(.tv (kInt .u8) c1)) (ja R))) ?_
 refine At.vj R R R R (jv R) R (fun hg4=>(jk (jh R hg4) (ji _ _) bin_geq)) ?_
 refine At.vj R R R R (jv R) R (fun hg5=>(jb (x:=(.tv kBool (decide ((65:Int)≤c1)))) (jh R hg5))) ?_
 refine At.vj R R R R (jt R) R (fun hg6=>(jb (x:=(.tv (kInt .u8) c1)) (ja R))) ?_
 refine At.vj R R R R (jt R) R (fun hg7=>(jk (jh R hg7) (ji _ _) bin_leq)) ?_
 refine At.vj R R R R (jv R) R (fun hg8=>(jm (jh R hg8) (ja R) (jl _) (pick_andG (and_of hg8)))) ?_
 refine At.d R R R R (jm (ja R) (jl _) (ja R) pick_or) ?_
 refine At.d R R R R (jd (x:=(.tv kBool (((decide ((97:Int)≤c1))&&(decide (c1≤(122:Int))))||((decide ((65:Int)≤c1))&&(decide (c1≤(90:Int))))))) (ja R)) ?_
 refine At.done (At.vh (At.ret ?_))
 exact At.j rfl (rv_tmp rfl) [] rfl ⟨(((decide ((97:Int)≤c1))&&(decide (c1≤(122:Int))))||((decide ((65:Int)≤c1))&&(decide (c1≤(90:Int))))),hF,rfl,rfl⟩
def ref08_digit.F (c1:Int):W Bool:=W.ret ((decide ((48:Int)≤c1))&&(decide (c1≤(57:Int))))
theorem ref08_digit.ok {c1:Int} {Q:Bool→Prop} (hF:ref08_digit.F c1 Q):Con Tryz.prog 178 [.tv (kInt .u8) c1] [] (fun ta rs'=>∃ (r:Bool),Q r∧ta=.tv kBool r∧rs'=[]):=by
 refine Con.i Tryz.func178 Tryz.ntmps178 R R (fun C=>?_)
 unfold ref08_digit.F at hF
 refine At.seq (At.region (At.d R R R R (jd (x:=(.tv kBool false)) (jl _)) ?_))
 refine At.done (At.vh (At.seq (At.region (At.d R R R R (jb (x:=(.tv (kInt .u8) c1)) (ja R)) ?_))))
 refine At.d R R R R (jk (ja R) (ji _ _) bin_geq) ?_
 refine At.d R R R R (jb (x:=(.tv kBool (decide ((48:Int)≤c1)))) (ja R)) ?_
 refine At.vj R R R R (ju R) R (fun hg1=>(jb (x:=(.tv (kInt .u8) c1)) (ja R))) ?_
 refine At.vj R R R R (ju R) R (fun hg2=>(jk (jh R hg2) (ji _ _) bin_leq)) ?_
 refine At.d R R R R (jm (ja R) (ja R) (jl _) ve) ?_
 refine At.d R R R R (jd (x:=(.tv kBool ((decide ((48:Int)≤c1))&&(decide (c1≤(57:Int)))))) (ja R)) ?_
 refine At.done (At.vh (At.ret ?_))
 exact At.j rfl (rv_tmp rfl) [] rfl ⟨((decide ((48:Int)≤c1))&&(decide (c1≤(57:Int)))),hF,rfl,rfl⟩
def ref08_word.F (c1:Int):W Bool:=W.bind (ref08_letter.F c1) (fun r1=>W.bind (W.ite (!r1) (ref08_digit.F c1) (W.ret false)) (fun r2=>W.ret ((r1||r2)||(c1==(95:Int)))))
theorem ref08_word.ok {c1:Int} {Q:Bool→Prop} (hF:ref08_word.F c1 Q):Con Tryz.prog 153 [.tv (kInt .u8) c1] [] (fun ta rs'=>∃ (r:Bool),Q r∧ta=.tv kBool r∧rs'=[]):=by
 refine Con.i Tryz.func153 Tryz.ntmps153 R R (fun C=>?_)
 unfold ref08_word.F at hF
 refine At.seq (At.region (At.d R R R R (jd (x:=(.tv kBool false)) (jl _)) ?_))
 refine At.done (At.vh (At.seq (At.region (At.d R R R R (jb (x:=(.tv (kInt .u8) c1)) (ja R)) ?_))))
 replace hF:=W.vm hF
 refine At.f R (jn R R jp (jq R en_154 (jf (ja R) jg)) (ref08_letter.ok hF) (by rintro _ _ ⟨r,_,rfl,_⟩;exact vl)) ?_
 rintro _ _ ⟨_,_,⟨r1,hF,rfl,rfl⟩,rfl,rfl⟩
 refine At.d R R R R (jb (x:=(.tv kBool r1)) (ja R)) ?_
 refine At.vj R R R R (jv R) R (fun hg1=>(jb (x:=(.tv (kInt .u8) c1)) (ja R))) ?_
 replace hF:=W.vm hF
 refine At.effG R R R R (jv R) hF (fun r=>.tv kBool r) (fun hg2 hF=>eff_of (jn R R jp (jq R en_178 (jf (jh R hg2) jg)) (ref08_digit.ok hF) (by rintro _ _ ⟨r,_,rfl,_⟩;exact vl)) (by rintro _ _ ⟨_,_,⟨r,hF,rfl,rfl⟩,rfl,rfl⟩;exact ⟨r,hF,R,R⟩)) (fun r2 hF=>?_)
 refine At.d R R R R (jm (ja R) (jl _) (ja R) pick_or) ?_
 refine At.d R R R R (jb (x:=(.tv kBool (r1||r2))) (ja R)) ?_
 refine At.vj R R R R (jv R) R (fun hg3=>(jb (x:=(.tv (kInt .u8) c1)) (ja R))) ?_
 refine At.vj R R R R (jv R) R (fun hg4=>(jk (jh R hg4) (ji _ _) bin_eql)) ?_
 refine At.d R R R R (jm (ja R) (jl _) (ja R) pick_or) ?_
 refine At.d R R R R (jd (x:=(.tv kBool ((r1||r2)||(c1==(95:Int))))) (ja R)) ?_
 refine At.done (At.vh (At.ret ?_))
 exact At.j rfl (rv_tmp rfl) [] rfl ⟨((r1||r2)||(c1==(95:Int))),hF,rfl,rfl⟩
def ref08_Name.c1 (s1:BA):W Bool:=W.req (((decide ((0:Int)<(s1.size:Int)))&&(decide ((s1.size:Int)≤(24:Int))))=true→0≤(0:Int)∧(0:Int)<(s1.size:Int)) (W.bind (W.ite ((decide ((0:Int)<(s1.size:Int)))&&(decide ((s1.size:Int)≤(24:Int)))) (ref08_letter.F (byteAt s1 (0:Int))) (W.ret false)) (fun r3=>W.ret (((decide ((0:Int)<(s1.size:Int)))&&(decide ((s1.size:Int)≤(24:Int))))&&r3)))
def ref08_Name.l1 (s1:BA) (K1:W Bool) (A1:Int→W Bool) (i6:Int):W Bool:=W.ite (decide (i6<(s1.size:Int))) (W.req (0≤i6∧i6<(s1.size:Int)) (W.bind (ref08_word.F (byteAt s1 i6)) (fun r6=>W.ite (!r6) (W.ret false) (A1 (w64 (i6+(1:Int))))))) (K1)
def ref08_Name.F (s1:BA):W Bool:=W.ex fun n=>W.iter1 (ref08_Name.l1 s1 (ref08_Name.c1 s1)) n (0:Int)
theorem ref08_Name.ok {s1:BA} {Q:Bool→Prop} (hF:ref08_Name.F s1 Q):Con Tryz.prog 124 [.tv kStr s1] [] (fun ta rs'=>∃ (r:Bool),Q r∧ta=.tv kBool r∧rs'=[]):=by
 refine Con.i Tryz.func124 Tryz.ntmps124 R R (fun C=>?_)
 unfold ref08_Name.F at hF
 refine At.seq (At.region (At.d R R R R (jd (x:=(.tv kBool false)) (jl _)) ?_))
 refine At.done (At.vh ?_)
 refine At.cut (fun rs L=>∃ _:Unit,ref08_Name.c1 s1 Q∧rs=[]∧L=mkL [(0,(.tv kStr s1))]) ?_ ?_
 ·refine At.seq (At.region (At.d R R R R (jd (x:=(.tv (kInt .i64) (0:Int))) (ji _ _)) ?_))
  refine At.done (At.vh (At.block ?_))
  obtain ⟨n1,hF⟩:=hF
  refine At.w [] R [(0,(.tv kStr s1)),(3,(.tv (kInt .i64) (0:Int)))] ⟨R,R,trivial⟩ ?_
  refine At.loop (fun m rs L=>∃ (i6:Int),W.iter1 (ref08_Name.l1 s1 (ref08_Name.c1 s1)) m i6 Q∧rs=[]∧L=mkL [(0,(.tv kStr s1)),(3,(.tv (kInt .i64) i6))]) ?_ ?_ (m:=n1) ⟨(0:Int),hF,R,R⟩
  ·rintro rs L ⟨_,hF,_,_⟩;exact hF
  ·rintro m1 _ _ ⟨i6,hF,rfl,rfl⟩
   replace hF:=W.iter1_s hF
   unfold ref08_Name.l1 at hF
   refine At.seq (At.seq (At.region (At.d R R R R (jb (x:=(.tv (kInt .i64) i6)) (ja R)) ?_)))
   refine At.d R R R R (jb (x:=(.tv kStr s1)) (ja R)) ?_
   refine At.d R R R R (does_len_str (ja R) Tryz.underlying9) ?_
   refine At.d R R R R (jk (ja R) (ja R) vd) ?_
   refine At.done (At.vh ?_)
   refine At.cond (ja R) (fun hb9=>?_) (fun hb9=>?_)
   ·replace hF:=W.ite_t hb9 hF
    refine At.skip (At.vh (At.seq (At.block (At.seq (At.region (At.d R R R R (jb (x:=(.tv kStr s1)) (ja R)) ?_))))))
    refine At.d R R R R (jb (x:=(.tv (kInt .i64) i6)) (ja R)) ?_
    obtain ⟨hq6,hF⟩:=hF
    refine At.d R R R R (does_index_str (ja R) (ja R) Tryz.underlying9 hq6) ?_
    replace hF:=W.vm hF
    refine At.f R (jn R R jp (jq R en_153 (jf (ja R) jg)) (ref08_word.ok hF) (by rintro _ _ ⟨r,_,rfl,_⟩;exact vl)) ?_
    rintro _ _ ⟨_,_,⟨r6,hF,rfl,rfl⟩,rfl,rfl⟩
    refine At.d R R R R (does_not (ja R)) ?_
    refine At.done (At.vh ?_)
    refine At.cond (ja R) (fun hb10=>?_) (fun hb10=>?_)
    ·replace hF:=W.ite_t hb10 hF
     refine At.seq (At.region (At.d R R R R (jd (x:=(.tv kBool false)) (jl _)) ?_))
     refine At.done (At.vh (At.ret ?_))
     refine At.q ?_
     refine At.vi (At.vi ?_)
     refine At.q ?_
     refine At.vi ?_
     exact At.j rfl (rv_tmp rfl) [] rfl ⟨false,hF,rfl,rfl⟩
    ·replace hF:=W.ite_f hb10 hF
     refine At.skip ?_
     refine At.n ?_
     refine At.vh (At.region (At.d R R R R (jb (x:=(.tv (kInt .i64) i6)) (ja R)) ?_))
     refine At.d R R R R (jk (ja R) (ji _ _) vc) ?_
     refine At.d R R R R (jd (x:=(.tv (kInt .i64) (w64 (i6+(1:Int))))) (ja R)) ?_
     refine At.done (At.vh ?_)
     refine At.w [] R [(0,(.tv kStr s1)),(3,(.tv (kInt .i64) (w64 (i6+(1:Int)))))] ⟨R,R,trivial⟩ (At.r ⟨(w64 (i6+(1:Int))),hF,R,R⟩)
   ·replace hF:=W.ite_f hb9 hF
    refine At.exit ?_
    refine At.x (At.x ?_)
    refine At.h ?_
    refine At.vh ?_
    refine At.w [] R [(0,(.tv kStr s1))] ⟨R,trivial⟩ (At.r ⟨(),hF,R,R⟩)
 ·rintro _ _ ⟨_,hF,rfl,rfl⟩
  unfold ref08_Name.c1 at hF
  refine At.seq (At.region (At.d R R R R (jb (x:=(.tv kStr s1)) (ja R)) ?_))
  refine At.d R R R R (does_len_str (ja R) Tryz.underlying9) ?_
  refine At.d R R R R (jk (ja R) (ji _ _) bin_gtr) ?_
  refine At.d R R R R (jb (x:=(.tv kBool (decide ((0:Int)<(s1.size:Int))))) (ja R)) ?_
  refine At.vj R R R R (ju R) R (fun hg1=>(jb (x:=(.tv kStr s1)) (ja R))) ?_
  refine At.vj R R R R (ju R) R (fun hg2=>(does_len_str (jh R hg2) Tryz.underlying9)) ?_
  refine At.vj R R R R (ju R) R (fun hg3=>(jk (jh R hg3) (ji _ _) bin_leq)) ?_
  refine At.d R R R R (jm (ja R) (ja R) (jl _) ve) ?_
  refine At.d R R R R (jb (x:=(.tv kBool ((decide ((0:Int)<(s1.size:Int)))&&(decide ((s1.size:Int)≤(24:Int)))))) (ja R)) ?_
  refine At.vj R R R R (ju R) R (fun hg4=>(jb (x:=(.tv kStr s1)) (ja R))) ?_
  obtain ⟨hq3,hF⟩:=hF
  refine At.vj R R R R (ju R) R (fun hg5=>(does_index_str (jh R hg5) (ji _ _) Tryz.underlying9 (hq3 hg5))) ?_
  replace hF:=W.vm hF
  refine At.effG R R R R (ju R) hF (fun r=>.tv kBool r) (fun hg6 hF=>eff_of (jn R R jp (jq R en_154 (jf (jh R hg6) jg)) (ref08_letter.ok hF) (by rintro _ _ ⟨r,_,rfl,_⟩;exact vl)) (by rintro _ _ ⟨_,_,⟨r,hF,rfl,rfl⟩,rfl,rfl⟩;exact ⟨r,hF,R,R⟩)) (fun r3 hF=>?_)
  refine At.d R R R R (jm (ja R) (ja R) (jl _) ve) ?_
  refine At.d R R R R (jd (x:=(.tv kBool (((decide ((0:Int)<(s1.size:Int)))&&(decide ((s1.size:Int)≤(24:Int))))&&r3))) (ja R)) ?_
  refine At.done (At.vh (At.ret ?_))
  exact At.j rfl (rv_tmp rfl) [] rfl ⟨(((decide ((0:Int)<(s1.size:Int)))&&(decide ((s1.size:Int)≤(24:Int))))&&r3),hF,rfl,rfl⟩
def ref11_On.F (p1:Point):W Bool:=W.ret ((((decide ((0:Int)≤p1.X))&&(decide (p1.X<(1048576:Int))))&&(decide ((0:Int)≤p1.Y)))&&(decide (p1.Y<(1048576:Int))))
theorem ref11_On.ok {p1:Point} {Q:Bool→Prop} (hF:ref11_On.F p1 Q):Con Tryz.prog 123 [.tv kPoint p1] [] (fun ta rs'=>∃ (r:Bool),Q r∧ta=.tv kBool r∧rs'=[]):=by
 refine Con.i Tryz.func123 Tryz.ntmps123 R R (fun C=>?_)
 unfold ref11_On.F at hF
 refine At.seq (At.region (At.f R (jw R R R (ja R)) ?_))
 rintro _ _ ⟨g1,rfl,rfl⟩
 refine At.d R R R R (jd (x:=(.tv kBool false)) (jl _)) ?_
 refine At.done (At.vh (At.seq (At.region (At.d R R R R (je (ja R) fa_37_0) ?_))))
 refine At.d R R R R (jc (ja R) 0 R sub_Point_0 ty_3) ?_
 refine At.d R R R R (jk (ja R) (ji _ _) bin_geq) ?_
 refine At.d R R R R (jb (x:=(.tv kBool (decide ((0:Int)≤p1.X)))) (ja R)) ?_
 refine At.vj R R R R (ju R) R (fun hg1=>(je (ja R) fa_37_0)) ?_
 refine At.vj R R R R (ju R) R (fun hg2=>(jc (jh R hg2) 0 R sub_Point_0 ty_3)) ?_
 refine At.vj R R R R (ju R) R (fun hg3=>(jk (jh R hg3) (ji _ _) vd)) ?_
 refine At.d R R R R (jm (ja R) (ja R) (jl _) ve) ?_
 refine At.d R R R R (jb (x:=(.tv kBool ((decide ((0:Int)≤p1.X))&&(decide (p1.X<(1048576:Int)))))) (ja R)) ?_
 refine At.vj R R R R (ju R) R (fun hg4=>(je (ja R) fa_37_1)) ?_
 refine At.vj R R R R (ju R) R (fun hg5=>(jc (jh R hg5) 0 R sub_Point_1 ty_3)) ?_
 refine At.vj R R R R (ju R) R (fun hg6=>(jk (jh R hg6) (ji _ _) bin_geq)) ?_
 refine At.d R R R R (jm (ja R) (ja R) (jl _) ve) ?_
 refine At.d R R R R (jb (x:=(.tv kBool (((decide ((0:Int)≤p1.X))&&(decide (p1.X<(1048576:Int))))&&(decide ((0:Int)≤p1.Y))))) (ja R)) ?_
 refine At.vj R R R R (ju R) R (fun hg7=>(je (ja R) fa_37_1)) ?_
 refine At.vj R R R R (ju R) R (fun hg8=>(jc (jh R hg8) 0 R sub_Point_1 ty_3)) ?_
 refine At.vj R R R R (ju R) R (fun hg9=>(jk (jh R hg9) (ji _ _) vd)) ?_
 refine At.d R R R R (jm (ja R) (ja R) (jl _) ve) ?_
 refine At.d R R R R (jd (x:=(.tv kBool ((((decide ((0:Int)≤p1.X))&&(decide (p1.X<(1048576:Int))))&&(decide ((0:Int)≤p1.Y)))&&(decide (p1.Y<(1048576:Int)))))) (ja R)) ?_
 refine At.done (At.vh (At.ret ?_))
 exact At.j rfl (rv_tmp rfl) [] rfl ⟨((((decide ((0:Int)≤p1.X))&&(decide (p1.X<(1048576:Int))))&&(decide ((0:Int)≤p1.Y)))&&(decide (p1.Y<(1048576:Int)))),hF,rfl,rfl⟩
def ref11_Tags.c1:W Bool:=W.ret true
def ref11_Tags.l1 (l1:(List Tag)) (K1:W Bool) (A1:Int→W Bool) (i6:Int):W Bool:=W.ite (decide (i6<(l1.length:Int))) (W.req (0≤i6∧i6<(l1.length:Int)) (W.bind (ref08_Name.F ((rd zTag l1 i6).Key)) (fun r5=>W.req ((!(!r5))=true→0≤i6∧i6<(l1.length:Int)) (W.req ((!((!r5)||(decide ((((rd zTag l1 i6).Value).size:Int)<(1:Int)))))=true→0≤i6∧i6<(l1.length:Int)) (W.req (((!(((!r5)||(decide ((((rd zTag l1 i6).Value).size:Int)<(1:Int))))||(decide ((200:Int)<(((rd zTag l1 i6).Value).size:Int)))))&&(decide ((0:Int)<i6)))=true→0≤(w64 (i6-(1:Int)))∧(w64 (i6-(1:Int)))<(l1.length:Int)) (W.req (((!(((!r5)||(decide ((((rd zTag l1 i6).Value).size:Int)<(1:Int))))||(decide ((200:Int)<(((rd zTag l1 i6).Value).size:Int)))))&&(decide ((0:Int)<i6)))=true→0≤i6∧i6<(l1.length:Int)) (W.ite ((((!r5)||(decide ((((rd zTag l1 i6).Value).size:Int)<(1:Int))))||(decide ((200:Int)<(((rd zTag l1 i6).Value).size:Int))))||((decide ((0:Int)<i6))&&(!(sLt ((rd zTag l1 (w64 (i6-(1:Int)))).Key) ((rd zTag l1 i6).Key))))) (W.ret false) (A1 (w64 (i6+(1:Int))))))))))) (K1)
def ref11_Tags.F (l1:(List Tag)):W Bool:=W.ite (decide ((60:Int)<(l1.length:Int))) (W.ret false) (W.ex fun n=>W.iter1 (ref11_Tags.l1 l1 (ref11_Tags.c1)) n (0:Int))
theorem ref11_Tags.ok {l1:(List Tag)} {Q:Bool→Prop} (hF:ref11_Tags.F l1 Q):Con Tryz.prog 126 [.tv (kSlice kTag) l1] [] (fun ta rs'=>∃ (r:Bool),Q r∧ta=.tv kBool r∧rs'=[]):=by
 refine Con.i Tryz.func126 Tryz.ntmps126 R R (fun C=>?_)
 unfold ref11_Tags.F at hF
 refine At.seq (At.region (At.d R R R R (jd (x:=(.tv kBool false)) (jl _)) ?_))
 refine At.done (At.vh (At.seq (At.seq (At.region (At.d R R R R (jb (x:=(.tv (kSlice kTag) l1)) (ja R)) ?_)))))
 refine At.d R R R R (js (ja R) Tryz.underlying57) ?_
 refine At.d R R R R (jk (ja R) (ji _ _) bin_gtr) ?_
 refine At.done (At.vh ?_)
 refine At.cond (ja R) (fun hb1=>?_) (fun hb1=>?_)
 ·replace hF:=W.ite_t hb1 hF
  refine At.seq (At.region (At.d R R R R (jd (x:=(.tv kBool false)) (jl _)) ?_))
  refine At.done (At.vh (At.ret (At.vi ?_)))
  exact At.j rfl (rv_tmp rfl) [] rfl ⟨false,hF,rfl,rfl⟩
 ·replace hF:=W.ite_f hb1 hF
  refine At.skip (At.vh ?_)
  refine At.cut (fun rs L=>∃ _:Unit,ref11_Tags.c1 Q∧rs=[]∧L=mkL []) ?_ ?_
  ·refine At.seq (At.region (At.d R R R R (jd (x:=(.tv (kInt .i64) (0:Int))) (ji _ _)) ?_))
   refine At.done (At.vh (At.block ?_))
   obtain ⟨n1,hF⟩:=hF
   refine At.w [] R [(0,(.tv (kSlice kTag) l1)),(3,(.tv (kInt .i64) (0:Int)))] ⟨R,R,trivial⟩ ?_
   refine At.loop (fun m rs L=>∃ (i6:Int),W.iter1 (ref11_Tags.l1 l1 (ref11_Tags.c1)) m i6 Q∧rs=[]∧L=mkL [(0,(.tv (kSlice kTag) l1)),(3,(.tv (kInt .i64) i6))]) ?_ ?_ (m:=n1) ⟨(0:Int),hF,R,R⟩
   ·rintro rs L ⟨_,hF,_,_⟩;exact hF
   ·rintro m1 _ _ ⟨i6,hF,rfl,rfl⟩
    replace hF:=W.iter1_s hF
    unfold ref11_Tags.l1 at hF
    refine At.seq (At.seq (At.region (At.d R R R R (jb (x:=(.tv (kInt .i64) i6)) (ja R)) ?_)))
    refine At.d R R R R (jb (x:=(.tv (kSlice kTag) l1)) (ja R)) ?_
    refine At.d R R R R (js (ja R) Tryz.underlying57) ?_
    refine At.d R R R R (jk (ja R) (ja R) vd) ?_
    refine At.done (At.vh ?_)
    refine At.cond (ja R) (fun hb10=>?_) (fun hb10=>?_)
    ·replace hF:=W.ite_t hb10 hF
     refine At.skip (At.vh (At.seq (At.block (At.seq ?_))))
     refine At.draw mixed [] R [] (fun φ w hgd=>?_)
     obtain ⟨hq21,hF⟩:=hF
     replace hF:=W.vm hF
     refine AtH.take [] hgd 0 R R R R (D':=#[Y,N,N,N,N,N,N,N,N,N,N,N,N,N,N,N,N,N,N,N,N,N,N,N,N,N,N,N,N,N,N,N,N,N,N,N,N,N,N,N,N,N,N]) (by kernel_rfl) (fun _ _ _ _ h=>h) R (jb (x:=(.tv (kSlice kTag) l1)) (ja R)) ?_
     refine AtH.take [] hgd 1 R R R R (D':=#[Y,Y,N,N,N,N,N,N,N,N,N,N,N,N,N,N,N,N,N,N,N,N,N,N,N,N,N,N,N,N,N,N,N,N,N,N,N,N,N,N,N,N,N]) (by kernel_rfl) (fun _ _ _ _ h=>h) R (jb (x:=(.tv (kInt .i64) i6)) (ja R)) ?_
     refine AtH.take [] hgd 2 R R R R (D':=#[Y,Y,Y,N,N,N,N,N,N,N,N,N,N,N,N,N,N,N,N,N,N,N,N,N,N,N,N,N,N,N,N,N,N,N,N,N,N,N,N,N,N,N,N]) (by kernel_rfl) (fun _ _ _ _ h=>h) R (vf zTag (ja R) (ja R) Tryz.underlying57 ty_73 hq21) ?_
     refine AtH.take [] hgd 3 R R R R (D':=#[Y,Y,Y,Y,N,N,N,N,N,N,N,N,N,N,N,N,N,N,N,N,N,N,N,N,N,N,N,N,N,N,N,N,N,N,N,N,N,N,N,N,N,N,N]) (by kernel_rfl) (fun _ _ _ _ h=>h) R (Jd (K:=kTag) (ja R) fa_73_0 sub_Tag_0) ?_
     refine AtH.take [] hgd 4 R R R R (D':=#[Y,Y,Y,Y,Y,N,N,N,N,N,N,N,N,N,N,N,N,N,N,N,N,N,N,N,N,N,N,N,N,N,N,N,N,N,N,N,N,N,N,N,N,N,N]) (by kernel_rfl) (fun _ _ _ _ h=>h) R (vq (K:=kStr) (ja R) ty_9) ?_
     refine AtH.all1 5 (by kernel_rfl) ?_
     refine AtH.f [] R R R R R R (jn R R jp (jq R en_124 (jf (ja R) jg)) (ref08_Name.ok hF) (by rintro _ _ ⟨r,_,rfl,_⟩;exact vl)) (D':=#[Y,Y,Y,Y,Y,Y,N,N,N,N,N,N,N,N,N,N,N,N,N,N,N,N,N,N,N,N,N,N,N,N,N,N,N,N,N,N,N,N,N,N,N,N,N]) (by kernel_rfl) (by kernel_rfl) ?_
     rintro _ _ ⟨_,_,⟨r5,hF,rfl,rfl⟩,rfl,rfl⟩
     refine ⟨_,.inr ⟨R,vl⟩,?_⟩
     obtain ⟨hq22,hF⟩:=hF
     obtain ⟨hq23,hF⟩:=hF
     obtain ⟨hq24,hF⟩:=hF
     obtain ⟨hq25,hF⟩:=hF
     refine AtH.take [] hgd 6 R R R R (D':=#[Y,Y,Y,Y,Y,Y,Y,N,N,N,N,N,N,N,N,N,N,N,N,N,N,N,N,N,N,N,N,N,N,N,N,N,N,N,N,N,N,N,N,N,N,N,N]) (by kernel_rfl) (fun _ _ _ _ h=>h) R (does_not (ja R)) ?_
     refine AtH.take [] hgd 7 R R R R (D':=#[Y,Y,Y,Y,Y,Y,Y,Y,N,N,N,N,N,N,N,N,N,N,N,N,N,N,N,N,N,N,N,N,N,N,N,N,N,N,N,N,N,N,N,N,N,N,N]) (by kernel_rfl) (fun _ _ _ _ h=>h) R (jb (x:=(.tv kBool (!r5))) (ja R)) ?_
     refine AtH.vk [] hgd 8 R R R (jv R) R R (D':=#[Y,Y,Y,Y,Y,Y,Y,Y,Y,N,N,N,N,N,N,N,N,N,N,N,N,N,N,N,N,N,N,N,N,N,N,N,N,N,N,N,N,N,N,N,N,N,N]) (by kernel_rfl) (fun _ _ _ _ h=>h) R (fun hg271=>(jb (x:=(.tv (kSlice kTag) l1)) (ja R))) ?_
     refine AtH.vk [] hgd 9 R R R (jv R) R R (D':=#[Y,Y,Y,Y,Y,Y,Y,Y,Y,Y,N,N,N,N,N,N,N,N,N,N,N,N,N,N,N,N,N,N,N,N,N,N,N,N,N,N,N,N,N,N,N,N,N]) (by kernel_rfl) (fun _ _ _ _ h=>h) R (fun hg272=>(jb (x:=(.tv (kInt .i64) i6)) (ja R))) ?_
     refine AtH.vk [] hgd 10 R R R (jv R) R R (D':=#[Y,Y,Y,Y,Y,Y,Y,Y,Y,Y,Y,N,N,N,N,N,N,N,N,N,N,N,N,N,N,N,N,N,N,N,N,N,N,N,N,N,N,N,N,N,N,N,N]) (by kernel_rfl) (fun _ _ _ _ h=>h) R (fun hg273=>(vf zTag (jh R hg273) (jh R hg273) Tryz.underlying57 ty_73 (hq22 hg273))) ?_
     refine AtH.vk [] hgd 11 R R R (jv R) R R (D':=#[Y,Y,Y,Y,Y,Y,Y,Y,Y,Y,Y,Y,N,N,N,N,N,N,N,N,N,N,N,N,N,N,N,N,N,N,N,N,N,N,N,N,N,N,N,N,N,N,N]) (by kernel_rfl) (fun _ _ _ _ h=>h) R (fun hg274=>(Jd (K:=kTag) (jh R hg274) fa_73_1 sub_Tag_1)) ?_
     refine AtH.vk [] hgd 12 R R R (jv R) R R (D':=#[Y,Y,Y,Y,Y,Y,Y,Y,Y,Y,Y,Y,Y,N,N,N,N,N,N,N,N,N,N,N,N,N,N,N,N,N,N,N,N,N,N,N,N,N,N,N,N,N,N]) (by kernel_rfl) (fun _ _ _ _ h=>h) R (fun hg275=>(vq (K:=kStr) (jh R hg275) ty_9)) ?_
     refine AtH.vk [] hgd 13 R R R (jv R) R R (D':=#[Y,Y,Y,Y,Y,Y,Y,Y,Y,Y,Y,Y,Y,Y,N,N,N,N,N,N,N,N,N,N,N,N,N,N,N,N,N,N,N,N,N,N,N,N,N,N,N,N,N]) (by kernel_rfl) (fun _ _ _ _ h=>h) R (fun hg276=>(does_len_str (jh R hg276) Tryz.underlying9)) ?_
     refine AtH.vk [] hgd 14 R R R (jv R) R R (D':=#[Y,Y,Y,Y,Y,Y,Y,Y,Y,Y,Y,Y,Y,Y,Y,N,N,N,N,N,N,N,N,N,N,N,N,N,N,N,N,N,N,N,N,N,N,N,N,N,N,N,N]) (by kernel_rfl) (fun _ _ _ _ h=>h) R (fun hg277=>(jk (jh R hg277) (ji _ _) vd)) ?_
     refine AtH.take [] hgd 15 R R R R (D':=#[Y,Y,Y,Y,Y,Y,Y,Y,Y,Y,Y,Y,Y,Y,Y,Y,N,N,N,N,N,N,N,N,N,N,N,N,N,N,N,N,N,N,N,N,N,N,N,N,N,N,N]) (by kernel_rfl) (fun _ _ _ _ h=>h) R (jm (ja R) (jl _) (ja R) pick_or) ?_
     refine AtH.take [] hgd 16 R R R R (D':=#[Y,Y,Y,Y,Y,Y,Y,Y,Y,Y,Y,Y,Y,Y,Y,Y,Y,N,N,N,N,N,N,N,N,N,N,N,N,N,N,N,N,N,N,N,N,N,N,N,N,N,N]) (by kernel_rfl) (fun _ _ _ _ h=>h) R (jb (x:=(.tv kBool ((!r5)||(decide ((((rd zTag l1 i6).Value).size:Int)<(1:Int)))))) (ja R)) ?_
     refine AtH.vk [] hgd 17 R R R (jv R) R R (D':=#[Y,Y,Y,Y,Y,Y,Y,Y,Y,Y,Y,Y,Y,Y,Y,Y,Y,Y,N,N,N,N,N,N,N,N,N,N,N,N,N,N,N,N,N,N,N,N,N,N,N,N,N]) (by kernel_rfl) (fun _ _ _ _ h=>h) R (fun hg278=>(jb (x:=(.tv (kSlice kTag) l1)) (ja R))) ?_
     refine AtH.vk [] hgd 18 R R R (jv R) R R (D':=#[Y,Y,Y,Y,Y,Y,Y,Y,Y,Y,Y,Y,Y,Y,Y,Y,Y,Y,Y,N,N,N,N,N,N,N,N,N,N,N,N,N,N,N,N,N,N,N,N,N,N,N,N]) (by kernel_rfl) (fun _ _ _ _ h=>h) R (fun hg279=>(jb (x:=(.tv (kInt .i64) i6)) (ja R))) ?_
     refine AtH.vk [] hgd 19 R R R (jv R) R R (D':=#[Y,Y,Y,Y,Y,Y,Y,Y,Y,Y,Y,Y,Y,Y,Y,Y,Y,Y,Y,Y,N,N,N,N,N,N,N,N,N,N,N,N,N,N,N,N,N,N,N,N,N,N,N]) (by kernel_rfl) (fun _ _ _ _ h=>h) R (fun hg280=>(vf zTag (jh R hg280) (jh R hg280) Tryz.underlying57 ty_73 (hq23 hg280))) ?_
     refine AtH.vk [] hgd 20 R R R (jv R) R R (D':=#[Y,Y,Y,Y,Y,Y,Y,Y,Y,Y,Y,Y,Y,Y,Y,Y,Y,Y,Y,Y,Y,N,N,N,N,N,N,N,N,N,N,N,N,N,N,N,N,N,N,N,N,N,N]) (by kernel_rfl) (fun _ _ _ _ h=>h) R (fun hg281=>(Jd (K:=kTag) (jh R hg281) fa_73_1 sub_Tag_1)) ?_
     refine AtH.vk [] hgd 21 R R R (jv R) R R (D':=#[Y,Y,Y,Y,Y,Y,Y,Y,Y,Y,Y,Y,Y,Y,Y,Y,Y,Y,Y,Y,Y,Y,N,N,N,N,N,N,N,N,N,N,N,N,N,N,N,N,N,N,N,N,N]) (by kernel_rfl) (fun _ _ _ _ h=>h) R (fun hg282=>(vq (K:=kStr) (jh R hg282) ty_9)) ?_
     refine AtH.vk [] hgd 22 R R R (jv R) R R (D':=#[Y,Y,Y,Y,Y,Y,Y,Y,Y,Y,Y,Y,Y,Y,Y,Y,Y,Y,Y,Y,Y,Y,Y,N,N,N,N,N,N,N,N,N,N,N,N,N,N,N,N,N,N,N,N]) (by kernel_rfl) (fun _ _ _ _ h=>h) R (fun hg283=>(does_len_str (jh R hg283) Tryz.underlying9)) ?_
     refine AtH.vk [] hgd 23 R R R (jv R) R R (D':=#[Y,Y,Y,Y,Y,Y,Y,Y,Y,Y,Y,Y,Y,Y,Y,Y,Y,Y,Y,Y,Y,Y,Y,Y,N,N,N,N,N,N,N,N,N,N,N,N,N,N,N,N,N,N,N]) (by kernel_rfl) (fun _ _ _ _ h=>h) R (fun hg284=>(jk (jh R hg284) (ji _ _) bin_gtr)) ?_
     refine AtH.take [] hgd 24 R R R R (D':=#[Y,Y,Y,Y,Y,Y,Y,Y,Y,Y,Y,Y,Y,Y,Y,Y,Y,Y,Y,Y,Y,Y,Y,Y,Y,N,N,N,N,N,N,N,N,N,N,N,N,N,N,N,N,N,N]) (by kernel_rfl) (fun _ _ _ _ h=>h) R (jm (ja R) (jl _) (ja R) pick_or) ?_
     refine AtH.take [] hgd 25 R R R R (D':=#[Y,Y,Y,Y,Y,Y,Y,Y,Y,Y,Y,Y,Y,Y,Y,Y,Y,Y,Y,Y,Y,Y,Y,Y,Y,Y,N,N,N,N,N,N,N,N,N,N,N,N,N,N,N,N,N]) (by kernel_rfl) (fun _ _ _ _ h=>h) R (jb (x:=(.tv kBool (((!r5)||(decide ((((rd zTag l1 i6).Value).size:Int)<(1:Int))))||(decide ((200:Int)<(((rd zTag l1 i6).Value).size:Int)))))) (ja R)) ?_
     refine AtH.vk [] hgd 26 R R R (jv R) R R (D':=#[Y,Y,Y,Y,Y,Y,Y,Y,Y,Y,Y,Y,Y,Y,Y,Y,Y,Y,Y,Y,Y,Y,Y,Y,Y,Y,Y,N,N,N,N,N,N,N,N,N,N,N,N,N,N,N,N]) (by kernel_rfl) (fun _ _ _ _ h=>h) R (fun hg285=>(jb (x:=(.tv (kInt .i64) i6)) (ja R))) ?_
     refine AtH.vk [] hgd 27 R R R (jv R) R R (D':=#[Y,Y,Y,Y,Y,Y,Y,Y,Y,Y,Y,Y,Y,Y,Y,Y,Y,Y,Y,Y,Y,Y,Y,Y,Y,Y,Y,Y,N,N,N,N,N,N,N,N,N,N,N,N,N,N,N]) (by kernel_rfl) (fun _ _ _ _ h=>h) R (fun hg286=>(jk (jh R hg286) (ji _ _) bin_gtr)) ?_
     refine AtH.vk [] hgd 28 R R R (jv R) R R (D':=#[Y,Y,Y,Y,Y,Y,Y,Y,Y,Y,Y,Y,Y,Y,Y,Y,Y,Y,Y,Y,Y,Y,Y,Y,Y,Y,Y,Y,Y,N,N,N,N,N,N,N,N,N,N,N,N,N,N]) (by kernel_rfl) (fun _ _ _ _ h=>h) R (fun hg287=>(jb (x:=(.tv kBool (decide ((0:Int)<i6)))) (jh R hg287))) ?_
     refine AtH.vk [] hgd 29 R R R (jt R) R R (D':=#[Y,Y,Y,Y,Y,Y,Y,Y,Y,Y,Y,Y,Y,Y,Y,Y,Y,Y,Y,Y,Y,Y,Y,Y,Y,Y,Y,Y,Y,Y,N,N,N,N,N,N,N,N,N,N,N,N,N]) (by kernel_rfl) (fun _ _ _ _ h=>h) R (fun hg288=>(jb (x:=(.tv (kSlice kTag) l1)) (ja R))) ?_
     refine AtH.vk [] hgd 30 R R R (jt R) R R (D':=#[Y,Y,Y,Y,Y,Y,Y,Y,Y,Y,Y,Y,Y,Y,Y,Y,Y,Y,Y,Y,Y,Y,Y,Y,Y,Y,Y,Y,Y,Y,Y,N,N,N,N,N,N,N,N,N,N,N,N]) (by kernel_rfl) (fun _ _ _ _ h=>h) R (fun hg289=>(jb (x:=(.tv (kInt .i64) i6)) (ja R))) ?_
     refine AtH.vk [] hgd 31 R R R (jt R) R R (D':=#[Y,Y,Y,Y,Y,Y,Y,Y,Y,Y,Y,Y,Y,Y,Y,Y,Y,Y,Y,Y,Y,Y,Y,Y,Y,Y,Y,Y,Y,Y,Y,Y,N,N,N,N,N,N,N,N,N,N,N]) (by kernel_rfl) (fun _ _ _ _ h=>h) R (fun hg290=>(jk (jh R hg290) (ji _ _) bin_sub)) ?_
     refine AtH.vk [] hgd 32 R R R (jt R) R R (D':=#[Y,Y,Y,Y,Y,Y,Y,Y,Y,Y,Y,Y,Y,Y,Y,Y,Y,Y,Y,Y,Y,Y,Y,Y,Y,Y,Y,Y,Y,Y,Y,Y,Y,N,N,N,N,N,N,N,N,N,N]) (by kernel_rfl) (fun _ _ _ _ h=>h) R (fun hg291=>(vf zTag (jh R hg291) (jh R hg291) Tryz.underlying57 ty_73 (hq24 hg291))) ?_
     refine AtH.vk [] hgd 33 R R R (jt R) R R (D':=#[Y,Y,Y,Y,Y,Y,Y,Y,Y,Y,Y,Y,Y,Y,Y,Y,Y,Y,Y,Y,Y,Y,Y,Y,Y,Y,Y,Y,Y,Y,Y,Y,Y,Y,N,N,N,N,N,N,N,N,N]) (by kernel_rfl) (fun _ _ _ _ h=>h) R (fun hg292=>(Jd (K:=kTag) (jh R hg292) fa_73_0 sub_Tag_0)) ?_
     refine AtH.vk [] hgd 34 R R R (jt R) R R (D':=#[Y,Y,Y,Y,Y,Y,Y,Y,Y,Y,Y,Y,Y,Y,Y,Y,Y,Y,Y,Y,Y,Y,Y,Y,Y,Y,Y,Y,Y,Y,Y,Y,Y,Y,Y,N,N,N,N,N,N,N,N]) (by kernel_rfl) (fun _ _ _ _ h=>h) R (fun hg293=>(vq (K:=kStr) (jh R hg293) ty_9)) ?_
     refine AtH.vk [] hgd 35 R R R (jt R) R R (D':=#[Y,Y,Y,Y,Y,Y,Y,Y,Y,Y,Y,Y,Y,Y,Y,Y,Y,Y,Y,Y,Y,Y,Y,Y,Y,Y,Y,Y,Y,Y,Y,Y,Y,Y,Y,Y,N,N,N,N,N,N,N]) (by kernel_rfl) (fun _ _ _ _ h=>h) R (fun hg294=>(jb (x:=(.tv (kSlice kTag) l1)) (ja R))) ?_
     refine AtH.vk [] hgd 36 R R R (jt R) R R (D':=#[Y,Y,Y,Y,Y,Y,Y,Y,Y,Y,Y,Y,Y,Y,Y,Y,Y,Y,Y,Y,Y,Y,Y,Y,Y,Y,Y,Y,Y,Y,Y,Y,Y,Y,Y,Y,Y,N,N,N,N,N,N]) (by kernel_rfl) (fun _ _ _ _ h=>h) R (fun hg295=>(jb (x:=(.tv (kInt .i64) i6)) (ja R))) ?_
     refine AtH.vk [] hgd 37 R R R (jt R) R R (D':=#[Y,Y,Y,Y,Y,Y,Y,Y,Y,Y,Y,Y,Y,Y,Y,Y,Y,Y,Y,Y,Y,Y,Y,Y,Y,Y,Y,Y,Y,Y,Y,Y,Y,Y,Y,Y,Y,Y,N,N,N,N,N]) (by kernel_rfl) (fun _ _ _ _ h=>h) R (fun hg296=>(vf zTag (jh R hg296) (jh R hg296) Tryz.underlying57 ty_73 (hq25 hg296))) ?_
     refine AtH.vk [] hgd 38 R R R (jt R) R R (D':=#[Y,Y,Y,Y,Y,Y,Y,Y,Y,Y,Y,Y,Y,Y,Y,Y,Y,Y,Y,Y,Y,Y,Y,Y,Y,Y,Y,Y,Y,Y,Y,Y,Y,Y,Y,Y,Y,Y,Y,N,N,N,N]) (by kernel_rfl) (fun _ _ _ _ h=>h) R (fun hg297=>(Jd (K:=kTag) (jh R hg297) fa_73_0 sub_Tag_0)) ?_
     refine AtH.vk [] hgd 39 R R R (jt R) R R (D':=#[Y,Y,Y,Y,Y,Y,Y,Y,Y,Y,Y,Y,Y,Y,Y,Y,Y,Y,Y,Y,Y,Y,Y,Y,Y,Y,Y,Y,Y,Y,Y,Y,Y,Y,Y,Y,Y,Y,Y,Y,N,N,N]) (by kernel_rfl) (fun _ _ _ _ h=>h) R (fun hg298=>(vq (K:=kStr) (jh R hg298) ty_9)) ?_
     refine AtH.vk [] hgd 40 R R R (jt R) R R (D':=#[Y,Y,Y,Y,Y,Y,Y,Y,Y,Y,Y,Y,Y,Y,Y,Y,Y,Y,Y,Y,Y,Y,Y,Y,Y,Y,Y,Y,Y,Y,Y,Y,Y,Y,Y,Y,Y,Y,Y,Y,Y,N,N]) (by kernel_rfl) (fun _ _ _ _ h=>h) R (fun hg299=>(jk (jh R hg299) (jh R hg299) bin_sgeq)) ?_
     refine AtH.vk [] hgd 41 R R R (jv R) R R (D':=#[Y,Y,Y,Y,Y,Y,Y,Y,Y,Y,Y,Y,Y,Y,Y,Y,Y,Y,Y,Y,Y,Y,Y,Y,Y,Y,Y,Y,Y,Y,Y,Y,Y,Y,Y,Y,Y,Y,Y,Y,Y,Y,N]) (by kernel_rfl) (fun _ _ _ _ h=>h) R (fun hg300=>(jm (jh R hg300) (ja R) (jl _) (pick_andG (and_of hg300)))) ?_
     refine AtH.take [] hgd 42 R R R R (D':=#[Y,Y,Y,Y,Y,Y,Y,Y,Y,Y,Y,Y,Y,Y,Y,Y,Y,Y,Y,Y,Y,Y,Y,Y,Y,Y,Y,Y,Y,Y,Y,Y,Y,Y,Y,Y,Y,Y,Y,Y,Y,Y,Y]) (by kernel_rfl) (fun _ _ _ _ h=>h) R (jm (ja R) (jl _) (ja R) pick_or) ?_
     refine AtH.done (by kernel_rfl) ?_
     refine At.vh ?_
     refine At.cond (ja R) (fun hb11=>?_) (fun hb11=>?_)
     ·replace hF:=W.ite_t hb11 hF
      refine At.seq (At.region (At.d R R R R (jd (x:=(.tv kBool false)) (jl _)) ?_))
      refine At.done (At.vh (At.ret ?_))
      refine At.q ?_
      refine At.vi (At.vi ?_)
      refine At.q ?_
      refine At.vi ?_
      exact At.j rfl (rv_tmp rfl) [] rfl ⟨false,hF,rfl,rfl⟩
     ·replace hF:=W.ite_f hb11 hF
      refine At.skip ?_
      refine At.n ?_
      refine At.vh (At.region (At.d R R R R (jb (x:=(.tv (kInt .i64) i6)) (ja R)) ?_))
      refine At.d R R R R (jk (ja R) (ji _ _) vc) ?_
      refine At.d R R R R (jd (x:=(.tv (kInt .i64) (w64 (i6+(1:Int))))) (ja R)) ?_
      refine At.done (At.vh ?_)
      refine At.w [] R [(0,(.tv (kSlice kTag) l1)),(3,(.tv (kInt .i64) (w64 (i6+(1:Int)))))] ⟨R,R,trivial⟩ (At.r ⟨(w64 (i6+(1:Int))),hF,R,R⟩)
    ·replace hF:=W.ite_f hb10 hF
     refine At.exit ?_
     refine At.x (At.x ?_)
     refine At.h ?_
     refine At.vh ?_
     refine At.w [] R [] trivial (At.r ⟨(),hF,R,R⟩)
  ·rintro _ _ ⟨_,hF,rfl,rfl⟩
   unfold ref11_Tags.c1 at hF
   refine At.seq (At.region (At.d R R R R (jd (x:=(.tv kBool true)) (jl _)) ?_))
   refine At.done (At.vh (At.ret ?_))
   exact At.j rfl (rv_tmp rfl) [] rfl ⟨true,hF,rfl,rfl⟩
def ref11_Word.F (kind1:Int):W BA:=W.ite ((decide (kind1<(1:Int)))||(decide ((5:Int)<kind1))) (W.ret (⟨#[]⟩:BA)) (W.req (0≤kind1∧kind1<(([(⟨#[]⟩:BA),(⟨#[110,111,100,101]⟩:BA),(⟨#[119,97,121]⟩:BA),(⟨#[97,114,101,97]⟩:BA),(⟨#[114,111,117,116,101]⟩:BA),(⟨#[116,117,114,110]⟩:BA)]:List BA).length:Int)) (W.req (0≤kind1∧kind1<(([(⟨#[]⟩:BA),(⟨#[110,111,100,101]⟩:BA),(⟨#[119,97,121]⟩:BA),(⟨#[97,114,101,97]⟩:BA),(⟨#[114,111,117,116,101]⟩:BA),(⟨#[116,117,114,110]⟩:BA)]:List BA).length:Int)) (W.ret (rd (⟨#[]⟩:BA) ([(⟨#[]⟩:BA),(⟨#[110,111,100,101]⟩:BA),(⟨#[119,97,121]⟩:BA),(⟨#[97,114,101,97]⟩:BA),(⟨#[114,111,117,116,101]⟩:BA),(⟨#[116,117,114,110]⟩:BA)]:List BA) kind1))))
theorem ref11_Word.ok {kind1:Int} {Q:BA→Prop} (hF:ref11_Word.F kind1 Q):Con Tryz.prog 125 [.tv (kInt .i64) kind1] [] (fun ta rs'=>∃ (r:BA),Q r∧ta=.tv kStr r∧rs'=[]):=by
 refine Con.i Tryz.func125 Tryz.ntmps125 R R (fun C=>?_)
 unfold ref11_Word.F at hF
 refine At.seq (At.region (At.d R R R R (jd (x:=(.tv kStr (⟨#[]⟩:BA))) (vg _)) ?_))
 refine At.done (At.vh (At.seq (At.region (At.f R (jy R R R (os:=[.const (.string (⟨#[]⟩:BA)),.const (.string (⟨#[110,111,100,101]⟩:BA)),.const (.string (⟨#[119,97,121]⟩:BA)),.const (.string (⟨#[97,114,101,97]⟩:BA)),.const (.string (⟨#[114,111,117,116,101]⟩:BA)),.const (.string (⟨#[116,117,114,110]⟩:BA))]) R sl_41 (xs:=([(⟨#[]⟩:BA),(⟨#[110,111,100,101]⟩:BA),(⟨#[119,97,121]⟩:BA),(⟨#[97,114,101,97]⟩:BA),(⟨#[114,111,117,116,101]⟩:BA),(⟨#[116,117,114,110]⟩:BA)]:List BA)) (jf (vg _) (jf (vg _) (jf (vg _) (jf (vg _) (jf (vg _) (jf (vg _) jg)))))) R R) ?_))))
 rintro _ _ ⟨v1,rfl,rfl⟩
 refine At.d R R R R (jd (x:=(.eq v1)) (ja R)) ?_
 refine At.done (At.vh (At.seq (At.seq (At.region (At.d R R R R (jb (x:=(.tv (kInt .i64) kind1)) (ja R)) ?_)))))
 refine At.d R R R R (jk (ja R) (ji _ _) vd) ?_
 refine At.d R R R R (jb (x:=(.tv kBool (decide (kind1<(1:Int))))) (ja R)) ?_
 refine At.vj R R R R (jv R) R (fun hg1=>(jb (x:=(.tv (kInt .i64) kind1)) (ja R))) ?_
 refine At.vj R R R R (jv R) R (fun hg2=>(jk (jh R hg2) (ji _ _) bin_gtr)) ?_
 refine At.d R R R R (jm (ja R) (jl _) (ja R) pick_or) ?_
 refine At.done (At.vh ?_)
 refine At.cond (ja R) (fun hb1=>?_) (fun hb1=>?_)
 ·replace hF:=W.ite_t hb1 hF
  refine At.seq (At.region (At.d R R R R (jd (x:=(.tv kStr (⟨#[]⟩:BA))) (vg _)) ?_))
  refine At.done (At.vh (At.ret (At.vi ?_)))
  exact At.j rfl (rv_tmp rfl) [] rfl ⟨(⟨#[]⟩:BA),hF,rfl,rfl⟩
 ·replace hF:=W.ite_f hb1 hF
  refine At.skip (At.vh (At.seq (At.region (At.d R R R R (jb (x:=(.eq v1)) (ja R)) ?_))))
  refine At.d R R R R (jb (x:=(.tv (kInt .i64) kind1)) (ja R)) ?_
  obtain ⟨hq1,hF⟩:=hF
  refine At.d R R R R (does_idx_row (ja R) 0 R (ja R) Tryz.underlying41 ty_9 hq1) ?_
  obtain ⟨hq2,hF⟩:=hF
  refine At.d R R R R (Jc (ja R) 0 R kind1 0 R (⟨#[]⟩:BA) hq2 (Sub.self kStr) ty_9) ?_
  refine At.d R R R R (jd (x:=(.tv kStr (rd (⟨#[]⟩:BA) ([(⟨#[]⟩:BA),(⟨#[110,111,100,101]⟩:BA),(⟨#[119,97,121]⟩:BA),(⟨#[97,114,101,97]⟩:BA),(⟨#[114,111,117,116,101]⟩:BA),(⟨#[116,117,114,110]⟩:BA)]:List BA) kind1))) (ja R)) ?_
  refine At.done (At.vh (At.ret ?_))
  exact At.j rfl (rv_tmp rfl) [] rfl ⟨(rd (⟨#[]⟩:BA) ([(⟨#[]⟩:BA),(⟨#[110,111,100,101]⟩:BA),(⟨#[119,97,121]⟩:BA),(⟨#[97,114,101,97]⟩:BA),(⟨#[114,111,117,116,101]⟩:BA),(⟨#[116,117,114,110]⟩:BA)]:List BA) kind1),hF,rfl,rfl⟩
def ref11_refs.c1 (o1:Object):W Bool:=W.ite (o1.Kind==(1:Int)) (W.ret ((o1.Refs.length:Int)==(0:Int))) (W.ite (o1.Kind==(2:Int)) (W.ret (decide ((2:Int)≤(o1.Refs.length:Int)))) (W.ite (o1.Kind==(3:Int)) (W.ret (decide ((3:Int)≤(o1.Refs.length:Int)))) (W.ite (o1.Kind==(4:Int)) (W.ret (decide ((1:Int)≤(o1.Refs.length:Int)))) (W.ret ((o1.Refs.length:Int)==(3:Int))))))
def ref11_refs.l1 (o1:Object) (K1:W Bool) (A1:(List (BA×Bool))→Int→W Bool) (x6:(List (BA×Bool))) (i6:Int):W Bool:=W.ite (decide (i6<(o1.Refs.length:Int))) (W.req (0≤i6∧i6<(o1.Refs.length:Int)) (W.bind (ref08_Name.F (rd (⟨#[]⟩:BA) o1.Refs i6)) (fun r5=>W.req (((!(!r5))&&((o1.Kind==(2:Int))&&(decide ((0:Int)<i6))))=true→0≤(w64 (i6-(1:Int)))∧(w64 (i6-(1:Int)))<(o1.Refs.length:Int)) (W.req (((!(!r5))&&((o1.Kind==(2:Int))&&(decide ((0:Int)<i6))))=true→0≤i6∧i6<(o1.Refs.length:Int)) (W.req (((!((!r5)||(((o1.Kind==(2:Int))&&(decide ((0:Int)<i6)))&&(sEq (rd (⟨#[]⟩:BA) o1.Refs (w64 (i6-(1:Int)))) (rd (⟨#[]⟩:BA) o1.Refs i6)))))&&(o1.Kind==(3:Int)))=true→0≤i6∧i6<(o1.Refs.length:Int)) (W.ite (((!r5)||(((o1.Kind==(2:Int))&&(decide ((0:Int)<i6)))&&(sEq (rd (⟨#[]⟩:BA) o1.Refs (w64 (i6-(1:Int)))) (rd (⟨#[]⟩:BA) o1.Refs i6))))||((o1.Kind==(3:Int))&&(mget (rd (⟨#[]⟩:BA) o1.Refs i6) false x6))) (W.ret false) (W.req (0≤i6∧i6<(o1.Refs.length:Int)) (A1 (mset (rd (⟨#[]⟩:BA) o1.Refs i6) true x6) (w64 (i6+(1:Int))))))))))) (K1)
def ref11_refs.F (o1:Object):W Bool:=W.ite (decide ((2000:Int)<(o1.Refs.length:Int))) (W.ret false) (W.ex fun n=>W.iter2 (ref11_refs.l1 o1 (ref11_refs.c1 o1)) n ([]:(List (BA×Bool))) (0:Int))
theorem ref11_refs.ok {o1:Object} {Q:Bool→Prop} (hF:ref11_refs.F o1 Q):Con Tryz.prog 127 [.tv kObject o1] [] (fun ta rs'=>∃ (r:Bool),Q r∧ta=.tv kBool r∧rs'=[]):=by
 refine Con.i Tryz.func127 Tryz.ntmps127 R R (fun C=>?_)
 unfold ref11_refs.F at hF
 refine At.seq (At.region (At.f R (jw R R R (ja R)) ?_))
 rintro _ _ ⟨g1,rfl,rfl⟩
 refine At.d R R R R (jd (x:=(.tv kBool false)) (jl _)) ?_
 refine At.done (At.vh (At.seq (At.region (At.d R R R R (je (ja R) fa_59_3) ?_))))
 refine At.d R R R R (jc (ja R) 0 R sub_Object_3 ty_41) ?_
 refine At.d R R R R (js (ja R) Tryz.underlying41) ?_
 refine At.d R R R R (jd (x:=(.tv (kInt .i64) (o1.Refs.length:Int))) (ja R)) ?_
 refine At.done (At.vh (At.seq (At.seq (At.region (At.d R R R R (jb (x:=(.tv (kInt .i64) (o1.Refs.length:Int))) (ja R)) ?_)))))
 refine At.d R R R R (jk (ja R) (ji _ _) bin_gtr) ?_
 refine At.done (At.vh ?_)
 refine At.cond (ja R) (fun hb1=>?_) (fun hb1=>?_)
 ·replace hF:=W.ite_t hb1 hF
  refine At.seq (At.region (At.d R R R R (jd (x:=(.tv kBool false)) (jl _)) ?_))
  refine At.done (At.vh (At.ret (At.vi ?_)))
  exact At.j rfl (rv_tmp rfl) [] rfl ⟨false,hF,rfl,rfl⟩
 ·replace hF:=W.ite_f hb1 hF
  refine At.skip (At.vh (At.seq (At.region (At.f R (eff_makeMap R R R kStr kBool) ?_))))
  rintro _ _ ⟨g2,rfl,rfl⟩
  refine At.d R R R R (jd (x:=(.eq (.map (some g2)))) (ja R)) ?_
  refine At.done (At.vh ?_)
  refine At.cut (fun rs L=>∃ _:Unit,ref11_refs.c1 o1 Q∧rs=[.box g1 59 kObject o1]∧L=mkL [(1,(.eq (.pointer (some ⟨g1,0,none⟩)))),(3,(.tv (kInt .i64) (o1.Refs.length:Int)))]) ?_ ?_
  ·refine At.seq (At.region (At.d R R R R (jd (x:=(.tv (kInt .i64) (0:Int))) (ji _ _)) ?_))
   refine At.done (At.vh (At.block ?_))
   obtain ⟨n1,hF⟩:=hF
   refine At.w [1,0] R [(1,(.eq (.pointer (some ⟨g1,0,none⟩)))),(3,(.tv (kInt .i64) (o1.Refs.length:Int))),(4,(.eq (.map (some g2)))),(5,(.tv (kInt .i64) (0:Int)))] ⟨R,R,R,R,trivial⟩ ?_
   refine At.loop (fun m rs L=>∃ (x6:(List (BA×Bool))) (i6:Int),W.iter2 (ref11_refs.l1 o1 (ref11_refs.c1 o1)) m x6 i6 Q∧rs=[.box g1 59 kObject o1,.map g2 kStr kBool x6]∧L=mkL [(1,(.eq (.pointer (some ⟨g1,0,none⟩)))),(3,(.tv (kInt .i64) (o1.Refs.length:Int))),(4,(.eq (.map (some g2)))),(5,(.tv (kInt .i64) i6))]) ?_ ?_ (m:=n1) ⟨([]:(List (BA×Bool))),(0:Int),hF,R,R⟩
   ·rintro rs L ⟨_,_,hF,_,_⟩;exact hF
   ·rintro m1 _ _ ⟨x6,i6,hF,rfl,rfl⟩
    replace hF:=W.iter2_s hF
    unfold ref11_refs.l1 at hF
    refine At.seq (At.seq (At.region (At.d R R R R (jb (x:=(.tv (kInt .i64) i6)) (ja R)) ?_)))
    refine At.d R R R R (jb (x:=(.tv (kInt .i64) (o1.Refs.length:Int))) (ja R)) ?_
    refine At.d R R R R (jk (ja R) (ja R) vd) ?_
    refine At.done (At.vh ?_)
    refine At.cond (ja R) (fun hb14=>?_) (fun hb14=>?_)
    ·replace hF:=W.ite_t hb14 hF
     refine At.skip (At.vh (At.seq (At.block (At.seq (At.seq ?_)))))
     refine At.draw mixed [0,1] R [[],[]] (fun φ w hgd=>?_)
     obtain ⟨hq21,hF⟩:=hF
     replace hF:=W.vm hF
     refine AtH.take [0,1] hgd 0 R R R R (D':=#[Y,N,N,N,N,N,N,N,N,N,N,N,N,N,N,N,N,N,N,N,N,N,N,N,N,N,N,N,N,N,N,N,N,N,N,N,N,N,N,N,N,N,N,N]) (by kernel_rfl) (fun _ _ _ _ h=>h) R (je (ja R) fa_59_3) ?_
     refine AtH.take [0,1] hgd 1 R R R R (D':=#[Y,Y,N,N,N,N,N,N,N,N,N,N,N,N,N,N,N,N,N,N,N,N,N,N,N,N,N,N,N,N,N,N,N,N,N,N,N,N,N,N,N,N,N,N]) (by kernel_rfl) (fun _ _ _ _ h=>h) R (jc (ja R) 0 R sub_Object_3 ty_41) ?_
     refine AtH.take [0,1] hgd 2 R R R R (D':=#[Y,Y,Y,N,N,N,N,N,N,N,N,N,N,N,N,N,N,N,N,N,N,N,N,N,N,N,N,N,N,N,N,N,N,N,N,N,N,N,N,N,N,N,N,N]) (by kernel_rfl) (fun _ _ _ _ h=>h) R (jb (x:=(.tv (kInt .i64) i6)) (ja R)) ?_
     refine AtH.take [0,1] hgd 3 R R R R (D':=#[Y,Y,Y,Y,N,N,N,N,N,N,N,N,N,N,N,N,N,N,N,N,N,N,N,N,N,N,N,N,N,N,N,N,N,N,N,N,N,N,N,N,N,N,N,N]) (by kernel_rfl) (fun _ _ _ _ h=>h) R (vf (⟨#[]⟩:BA) (ja R) (ja R) Tryz.underlying41 ty_9 hq21) ?_
     refine AtH.take [0,1] hgd 4 R R R R (D':=#[Y,Y,Y,Y,Y,N,N,N,N,N,N,N,N,N,N,N,N,N,N,N,N,N,N,N,N,N,N,N,N,N,N,N,N,N,N,N,N,N,N,N,N,N,N,N]) (by kernel_rfl) (fun _ _ _ _ h=>h) R (vq (K:=kStr) (ja R) ty_9) ?_
     refine AtH.all1 5 (by kernel_rfl) ?_
     refine AtH.f [(0,0),(1,1)] R R R R R R (jn R R jp (jq R en_124 (jf (ja R) jg)) (ref08_Name.ok hF) (by rintro _ _ ⟨r,_,rfl,_⟩;exact vl)) (D':=#[Y,Y,Y,Y,Y,Y,N,N,N,N,N,N,N,N,N,N,N,N,N,N,N,N,N,N,N,N,N,N,N,N,N,N,N,N,N,N,N,N,N,N,N,N,N,N]) (by kernel_rfl) (by kernel_rfl) ?_
     rintro _ _ ⟨_,_,⟨r5,hF,rfl,rfl⟩,rfl,rfl⟩
     refine ⟨_,.inr ⟨R,vl⟩,?_⟩
     obtain ⟨hq22,hF⟩:=hF
     obtain ⟨hq23,hF⟩:=hF
     obtain ⟨hq24,hF⟩:=hF
     refine AtH.take [0,1] hgd 6 R R R R (D':=#[Y,Y,Y,Y,Y,Y,Y,N,N,N,N,N,N,N,N,N,N,N,N,N,N,N,N,N,N,N,N,N,N,N,N,N,N,N,N,N,N,N,N,N,N,N,N,N]) (by kernel_rfl) (fun _ _ _ _ h=>h) R (does_not (ja R)) ?_
     refine AtH.take [0,1] hgd 7 R R R R (D':=#[Y,Y,Y,Y,Y,Y,Y,Y,N,N,N,N,N,N,N,N,N,N,N,N,N,N,N,N,N,N,N,N,N,N,N,N,N,N,N,N,N,N,N,N,N,N,N,N]) (by kernel_rfl) (fun _ _ _ _ h=>h) R (jb (x:=(.tv kBool (!r5))) (ja R)) ?_
     refine AtH.vk [0,1] hgd 8 R R R (jv R) R R (D':=#[Y,Y,Y,Y,Y,Y,Y,Y,Y,N,N,N,N,N,N,N,N,N,N,N,N,N,N,N,N,N,N,N,N,N,N,N,N,N,N,N,N,N,N,N,N,N,N,N]) (by kernel_rfl) (fun _ _ _ _ h=>h) R (fun hg298=>(je (ja R) fa_59_1)) ?_
     refine AtH.vk [0,1] hgd 9 R R R (jv R) R R (D':=#[Y,Y,Y,Y,Y,Y,Y,Y,Y,Y,N,N,N,N,N,N,N,N,N,N,N,N,N,N,N,N,N,N,N,N,N,N,N,N,N,N,N,N,N,N,N,N,N,N]) (by kernel_rfl) (fun _ _ _ _ h=>h) R (fun hg299=>(jc (jh R hg299) 0 R sub_Object_1 ty_3)) ?_
     refine AtH.vk [0,1] hgd 10 R R R (jv R) R R (D':=#[Y,Y,Y,Y,Y,Y,Y,Y,Y,Y,Y,N,N,N,N,N,N,N,N,N,N,N,N,N,N,N,N,N,N,N,N,N,N,N,N,N,N,N,N,N,N,N,N,N]) (by kernel_rfl) (fun _ _ _ _ h=>h) R (fun hg300=>(jk (jh R hg300) (ji _ _) bin_eql)) ?_
     refine AtH.vk [0,1] hgd 11 R R R (jv R) R R (D':=#[Y,Y,Y,Y,Y,Y,Y,Y,Y,Y,Y,Y,N,N,N,N,N,N,N,N,N,N,N,N,N,N,N,N,N,N,N,N,N,N,N,N,N,N,N,N,N,N,N,N]) (by kernel_rfl) (fun _ _ _ _ h=>h) R (fun hg301=>(jb (x:=(.tv kBool (o1.Kind==(2:Int)))) (jh R hg301))) ?_
     refine AtH.vk [0,1] hgd 12 R R R (jt R) R R (D':=#[Y,Y,Y,Y,Y,Y,Y,Y,Y,Y,Y,Y,Y,N,N,N,N,N,N,N,N,N,N,N,N,N,N,N,N,N,N,N,N,N,N,N,N,N,N,N,N,N,N,N]) (by kernel_rfl) (fun _ _ _ _ h=>h) R (fun hg302=>(jb (x:=(.tv (kInt .i64) i6)) (ja R))) ?_
     refine AtH.vk [0,1] hgd 13 R R R (jt R) R R (D':=#[Y,Y,Y,Y,Y,Y,Y,Y,Y,Y,Y,Y,Y,Y,N,N,N,N,N,N,N,N,N,N,N,N,N,N,N,N,N,N,N,N,N,N,N,N,N,N,N,N,N,N]) (by kernel_rfl) (fun _ _ _ _ h=>h) R (fun hg303=>(jk (jh R hg303) (ji _ _) bin_gtr)) ?_
     refine AtH.vk [0,1] hgd 14 R R R (jv R) R R (D':=#[Y,Y,Y,Y,Y,Y,Y,Y,Y,Y,Y,Y,Y,Y,Y,N,N,N,N,N,N,N,N,N,N,N,N,N,N,N,N,N,N,N,N,N,N,N,N,N,N,N,N,N]) (by kernel_rfl) (fun _ _ _ _ h=>h) R (fun hg304=>(jm (jh R hg304) (ja R) (jl _) (pick_andG (and_of hg304)))) ?_
     refine AtH.vk [0,1] hgd 15 R R R (jv R) R R (D':=#[Y,Y,Y,Y,Y,Y,Y,Y,Y,Y,Y,Y,Y,Y,Y,Y,N,N,N,N,N,N,N,N,N,N,N,N,N,N,N,N,N,N,N,N,N,N,N,N,N,N,N,N]) (by kernel_rfl) (fun _ _ _ _ h=>h) R (fun hg305=>(jb (x:=(.tv kBool ((o1.Kind==(2:Int))&&(decide ((0:Int)<i6))))) (jh R hg305))) ?_
     refine AtH.vk [0,1] hgd 16 R R R (jt R) R R (D':=#[Y,Y,Y,Y,Y,Y,Y,Y,Y,Y,Y,Y,Y,Y,Y,Y,Y,N,N,N,N,N,N,N,N,N,N,N,N,N,N,N,N,N,N,N,N,N,N,N,N,N,N,N]) (by kernel_rfl) (fun _ _ _ _ h=>h) R (fun hg306=>(je (ja R) fa_59_3)) ?_
     refine AtH.vk [0,1] hgd 17 R R R (jt R) R R (D':=#[Y,Y,Y,Y,Y,Y,Y,Y,Y,Y,Y,Y,Y,Y,Y,Y,Y,Y,N,N,N,N,N,N,N,N,N,N,N,N,N,N,N,N,N,N,N,N,N,N,N,N,N,N]) (by kernel_rfl) (fun _ _ _ _ h=>h) R (fun hg307=>(jc (jh R hg307) 0 R sub_Object_3 ty_41)) ?_
     refine AtH.vk [0,1] hgd 18 R R R (jt R) R R (D':=#[Y,Y,Y,Y,Y,Y,Y,Y,Y,Y,Y,Y,Y,Y,Y,Y,Y,Y,Y,N,N,N,N,N,N,N,N,N,N,N,N,N,N,N,N,N,N,N,N,N,N,N,N,N]) (by kernel_rfl) (fun _ _ _ _ h=>h) R (fun hg308=>(jb (x:=(.tv (kInt .i64) i6)) (ja R))) ?_
     refine AtH.vk [0,1] hgd 19 R R R (jt R) R R (D':=#[Y,Y,Y,Y,Y,Y,Y,Y,Y,Y,Y,Y,Y,Y,Y,Y,Y,Y,Y,Y,N,N,N,N,N,N,N,N,N,N,N,N,N,N,N,N,N,N,N,N,N,N,N,N]) (by kernel_rfl) (fun _ _ _ _ h=>h) R (fun hg309=>(jk (jh R hg309) (ji _ _) bin_sub)) ?_
     refine AtH.vk [0,1] hgd 20 R R R (jt R) R R (D':=#[Y,Y,Y,Y,Y,Y,Y,Y,Y,Y,Y,Y,Y,Y,Y,Y,Y,Y,Y,Y,Y,N,N,N,N,N,N,N,N,N,N,N,N,N,N,N,N,N,N,N,N,N,N,N]) (by kernel_rfl) (fun _ _ _ _ h=>h) R (fun hg310=>(vf (⟨#[]⟩:BA) (jh R hg310) (jh R hg310) Tryz.underlying41 ty_9 (hq22 hg310))) ?_
     refine AtH.vk [0,1] hgd 21 R R R (jt R) R R (D':=#[Y,Y,Y,Y,Y,Y,Y,Y,Y,Y,Y,Y,Y,Y,Y,Y,Y,Y,Y,Y,Y,Y,N,N,N,N,N,N,N,N,N,N,N,N,N,N,N,N,N,N,N,N,N,N]) (by kernel_rfl) (fun _ _ _ _ h=>h) R (fun hg311=>(vq (K:=kStr) (jh R hg311) ty_9)) ?_
     refine AtH.vk [0,1] hgd 22 R R R (jt R) R R (D':=#[Y,Y,Y,Y,Y,Y,Y,Y,Y,Y,Y,Y,Y,Y,Y,Y,Y,Y,Y,Y,Y,Y,Y,N,N,N,N,N,N,N,N,N,N,N,N,N,N,N,N,N,N,N,N,N]) (by kernel_rfl) (fun _ _ _ _ h=>h) R (fun hg312=>(je (ja R) fa_59_3)) ?_
     refine AtH.vk [0,1] hgd 23 R R R (jt R) R R (D':=#[Y,Y,Y,Y,Y,Y,Y,Y,Y,Y,Y,Y,Y,Y,Y,Y,Y,Y,Y,Y,Y,Y,Y,Y,N,N,N,N,N,N,N,N,N,N,N,N,N,N,N,N,N,N,N,N]) (by kernel_rfl) (fun _ _ _ _ h=>h) R (fun hg313=>(jc (jh R hg313) 0 R sub_Object_3 ty_41)) ?_
     refine AtH.vk [0,1] hgd 24 R R R (jt R) R R (D':=#[Y,Y,Y,Y,Y,Y,Y,Y,Y,Y,Y,Y,Y,Y,Y,Y,Y,Y,Y,Y,Y,Y,Y,Y,Y,N,N,N,N,N,N,N,N,N,N,N,N,N,N,N,N,N,N,N]) (by kernel_rfl) (fun _ _ _ _ h=>h) R (fun hg314=>(jb (x:=(.tv (kInt .i64) i6)) (ja R))) ?_
     refine AtH.vk [0,1] hgd 25 R R R (jt R) R R (D':=#[Y,Y,Y,Y,Y,Y,Y,Y,Y,Y,Y,Y,Y,Y,Y,Y,Y,Y,Y,Y,Y,Y,Y,Y,Y,Y,N,N,N,N,N,N,N,N,N,N,N,N,N,N,N,N,N,N]) (by kernel_rfl) (fun _ _ _ _ h=>h) R (fun hg315=>(vf (⟨#[]⟩:BA) (jh R hg315) (jh R hg315) Tryz.underlying41 ty_9 (hq23 hg315))) ?_
     refine AtH.vk [0,1] hgd 26 R R R (jt R) R R (D':=#[Y,Y,Y,Y,Y,Y,Y,Y,Y,Y,Y,Y,Y,Y,Y,Y,Y,Y,Y,Y,Y,Y,Y,Y,Y,Y,Y,N,N,N,N,N,N,N,N,N,N,N,N,N,N,N,N,N]) (by kernel_rfl) (fun _ _ _ _ h=>h) R (fun hg316=>(vq (K:=kStr) (jh R hg316) ty_9)) ?_
     refine AtH.vk [0,1] hgd 27 R R R (jt R) R R (D':=#[Y,Y,Y,Y,Y,Y,Y,Y,Y,Y,Y,Y,Y,Y,Y,Y,Y,Y,Y,Y,Y,Y,Y,Y,Y,Y,Y,Y,N,N,N,N,N,N,N,N,N,N,N,N,N,N,N,N]) (by kernel_rfl) (fun _ _ _ _ h=>h) R (fun hg317=>(jk (jh R hg317) (jh R hg317) bin_seql)) ?_
     refine AtH.vk [0,1] hgd 28 R R R (jv R) R R (D':=#[Y,Y,Y,Y,Y,Y,Y,Y,Y,Y,Y,Y,Y,Y,Y,Y,Y,Y,Y,Y,Y,Y,Y,Y,Y,Y,Y,Y,Y,N,N,N,N,N,N,N,N,N,N,N,N,N,N,N]) (by kernel_rfl) (fun _ _ _ _ h=>h) R (fun hg318=>(jm (jh R hg318) (ja R) (jl _) (pick_andG (and_of hg318)))) ?_
     refine AtH.take [0,1] hgd 29 R R R R (D':=#[Y,Y,Y,Y,Y,Y,Y,Y,Y,Y,Y,Y,Y,Y,Y,Y,Y,Y,Y,Y,Y,Y,Y,Y,Y,Y,Y,Y,Y,Y,N,N,N,N,N,N,N,N,N,N,N,N,N,N]) (by kernel_rfl) (fun _ _ _ _ h=>h) R (jm (ja R) (jl _) (ja R) pick_or) ?_
     refine AtH.take [0,1] hgd 30 R R R R (D':=#[Y,Y,Y,Y,Y,Y,Y,Y,Y,Y,Y,Y,Y,Y,Y,Y,Y,Y,Y,Y,Y,Y,Y,Y,Y,Y,Y,Y,Y,Y,Y,N,N,N,N,N,N,N,N,N,N,N,N,N]) (by kernel_rfl) (fun _ _ _ _ h=>h) R (jb (x:=(.tv kBool ((!r5)||(((o1.Kind==(2:Int))&&(decide ((0:Int)<i6)))&&(sEq (rd (⟨#[]⟩:BA) o1.Refs (w64 (i6-(1:Int)))) (rd (⟨#[]⟩:BA) o1.Refs i6)))))) (ja R)) ?_
     refine AtH.vk [0,1] hgd 31 R R R (jv R) R R (D':=#[Y,Y,Y,Y,Y,Y,Y,Y,Y,Y,Y,Y,Y,Y,Y,Y,Y,Y,Y,Y,Y,Y,Y,Y,Y,Y,Y,Y,Y,Y,Y,Y,N,N,N,N,N,N,N,N,N,N,N,N]) (by kernel_rfl) (fun _ _ _ _ h=>h) R (fun hg319=>(je (ja R) fa_59_1)) ?_
     refine AtH.vk [0,1] hgd 32 R R R (jv R) R R (D':=#[Y,Y,Y,Y,Y,Y,Y,Y,Y,Y,Y,Y,Y,Y,Y,Y,Y,Y,Y,Y,Y,Y,Y,Y,Y,Y,Y,Y,Y,Y,Y,Y,Y,N,N,N,N,N,N,N,N,N,N,N]) (by kernel_rfl) (fun _ _ _ _ h=>h) R (fun hg320=>(jc (jh R hg320) 0 R sub_Object_1 ty_3)) ?_
     refine AtH.vk [0,1] hgd 33 R R R (jv R) R R (D':=#[Y,Y,Y,Y,Y,Y,Y,Y,Y,Y,Y,Y,Y,Y,Y,Y,Y,Y,Y,Y,Y,Y,Y,Y,Y,Y,Y,Y,Y,Y,Y,Y,Y,Y,N,N,N,N,N,N,N,N,N,N]) (by kernel_rfl) (fun _ _ _ _ h=>h) R (fun hg321=>(jk (jh R hg321) (ji _ _) bin_eql)) ?_
     refine AtH.vk [0,1] hgd 34 R R R (jv R) R R (D':=#[Y,Y,Y,Y,Y,Y,Y,Y,Y,Y,Y,Y,Y,Y,Y,Y,Y,Y,Y,Y,Y,Y,Y,Y,Y,Y,Y,Y,Y,Y,Y,Y,Y,Y,Y,N,N,N,N,N,N,N,N,N]) (by kernel_rfl) (fun _ _ _ _ h=>h) R (fun hg322=>(jb (x:=(.tv kBool (o1.Kind==(3:Int)))) (jh R hg322))) ?_
     refine AtH.vk [0,1] hgd 35 R R R (jt R) R R (D':=#[Y,Y,Y,Y,Y,Y,Y,Y,Y,Y,Y,Y,Y,Y,Y,Y,Y,Y,Y,Y,Y,Y,Y,Y,Y,Y,Y,Y,Y,Y,Y,Y,Y,Y,Y,Y,N,N,N,N,N,N,N,N]) (by kernel_rfl) (fun _ _ _ _ h=>h) R (fun hg323=>(jb (x:=(.eq (.map (some g2)))) (ja R))) ?_
     refine AtH.vk [0,1] hgd 36 R R R (jt R) R R (D':=#[Y,Y,Y,Y,Y,Y,Y,Y,Y,Y,Y,Y,Y,Y,Y,Y,Y,Y,Y,Y,Y,Y,Y,Y,Y,Y,Y,Y,Y,Y,Y,Y,Y,Y,Y,Y,Y,N,N,N,N,N,N,N]) (by kernel_rfl) (fun _ _ _ _ h=>h) R (fun hg324=>(je (ja R) fa_59_3)) ?_
     refine AtH.vk [0,1] hgd 37 R R R (jt R) R R (D':=#[Y,Y,Y,Y,Y,Y,Y,Y,Y,Y,Y,Y,Y,Y,Y,Y,Y,Y,Y,Y,Y,Y,Y,Y,Y,Y,Y,Y,Y,Y,Y,Y,Y,Y,Y,Y,Y,Y,N,N,N,N,N,N]) (by kernel_rfl) (fun _ _ _ _ h=>h) R (fun hg325=>(jc (jh R hg325) 0 R sub_Object_3 ty_41)) ?_
     refine AtH.vk [0,1] hgd 38 R R R (jt R) R R (D':=#[Y,Y,Y,Y,Y,Y,Y,Y,Y,Y,Y,Y,Y,Y,Y,Y,Y,Y,Y,Y,Y,Y,Y,Y,Y,Y,Y,Y,Y,Y,Y,Y,Y,Y,Y,Y,Y,Y,Y,N,N,N,N,N]) (by kernel_rfl) (fun _ _ _ _ h=>h) R (fun hg326=>(jb (x:=(.tv (kInt .i64) i6)) (ja R))) ?_
     refine AtH.vk [0,1] hgd 39 R R R (jt R) R R (D':=#[Y,Y,Y,Y,Y,Y,Y,Y,Y,Y,Y,Y,Y,Y,Y,Y,Y,Y,Y,Y,Y,Y,Y,Y,Y,Y,Y,Y,Y,Y,Y,Y,Y,Y,Y,Y,Y,Y,Y,Y,N,N,N,N]) (by kernel_rfl) (fun _ _ _ _ h=>h) R (fun hg327=>(vf (⟨#[]⟩:BA) (jh R hg327) (jh R hg327) Tryz.underlying41 ty_9 (hq24 hg327))) ?_
     refine AtH.vk [0,1] hgd 40 R R R (jt R) R R (D':=#[Y,Y,Y,Y,Y,Y,Y,Y,Y,Y,Y,Y,Y,Y,Y,Y,Y,Y,Y,Y,Y,Y,Y,Y,Y,Y,Y,Y,Y,Y,Y,Y,Y,Y,Y,Y,Y,Y,Y,Y,Y,N,N,N]) (by kernel_rfl) (fun _ _ _ _ h=>h) R (fun hg328=>(vq (K:=kStr) (jh R hg328) ty_9)) ?_
     refine AtH.vk [0,1] hgd 41 R R R (jt R) R R (D':=#[Y,Y,Y,Y,Y,Y,Y,Y,Y,Y,Y,Y,Y,Y,Y,Y,Y,Y,Y,Y,Y,Y,Y,Y,Y,Y,Y,Y,Y,Y,Y,Y,Y,Y,Y,Y,Y,Y,Y,Y,Y,Y,N,N]) (by kernel_rfl) (fun _ _ _ _ h=>h) R (fun hg329=>(does_look (jh R hg329) 1 R mt_56 (jh R hg329))) ?_
     refine AtH.vk [0,1] hgd 42 R R R (jv R) R R (D':=#[Y,Y,Y,Y,Y,Y,Y,Y,Y,Y,Y,Y,Y,Y,Y,Y,Y,Y,Y,Y,Y,Y,Y,Y,Y,Y,Y,Y,Y,Y,Y,Y,Y,Y,Y,Y,Y,Y,Y,Y,Y,Y,Y,N]) (by kernel_rfl) (fun _ _ _ _ h=>h) R (fun hg330=>(jm (jh R hg330) (ja R) (jl _) (pick_andG (and_of hg330)))) ?_
     refine AtH.take [0,1] hgd 43 R R R R (D':=#[Y,Y,Y,Y,Y,Y,Y,Y,Y,Y,Y,Y,Y,Y,Y,Y,Y,Y,Y,Y,Y,Y,Y,Y,Y,Y,Y,Y,Y,Y,Y,Y,Y,Y,Y,Y,Y,Y,Y,Y,Y,Y,Y,Y]) (by kernel_rfl) (fun _ _ _ _ h=>h) R (jm (ja R) (jl _) (ja R) pick_or) ?_
     refine AtH.done (by kernel_rfl) ?_
     refine At.vh ?_
     refine At.cond (ja R) (fun hb15=>?_) (fun hb15=>?_)
     ·replace hF:=W.ite_t hb15 hF
      refine At.seq (At.region (At.d R R R R (jd (x:=(.tv kBool false)) (jl _)) ?_))
      refine At.done (At.vh (At.ret (At.vi ?_)))
      refine At.q ?_
      refine At.vi (At.vi ?_)
      refine At.q ?_
      refine At.vi ?_
      exact At.j rfl (rv_tmp rfl) [] rfl ⟨false,hF,rfl,rfl⟩
     ·replace hF:=W.ite_f hb15 hF
      refine At.skip (At.vh (At.region (At.d R R R R (jb (x:=(.eq (.map (some g2)))) (ja R)) ?_)))
      refine At.d R R R R (je (ja R) fa_59_3) ?_
      refine At.d R R R R (jc (ja R) 0 R sub_Object_3 ty_41) ?_
      refine At.d R R R R (jb (x:=(.tv (kInt .i64) i6)) (ja R)) ?_
      obtain ⟨hq25,hF⟩:=hF
      refine At.d R R R R (vf (⟨#[]⟩:BA) (ja R) (ja R) Tryz.underlying41 ty_9 hq25) ?_
      refine At.d R R R R (vq (K:=kStr) (ja R) ty_9) ?_
      refine At.f R (eff_mapUpdate R R (ja R) 1 R mt_56 (ja R) (jl _)) ?_
      rintro _ _ ⟨rfl,rfl⟩
      refine At.done ?_
      refine At.n ?_
      refine At.vh (At.region (At.d R R R R (jb (x:=(.tv (kInt .i64) i6)) (ja R)) ?_))
      refine At.d R R R R (jk (ja R) (ji _ _) vc) ?_
      refine At.d R R R R (jd (x:=(.tv (kInt .i64) (w64 (i6+(1:Int))))) (ja R)) ?_
      refine At.done (At.vh ?_)
      refine At.w [0,1] R [(1,(.eq (.pointer (some ⟨g1,0,none⟩)))),(3,(.tv (kInt .i64) (o1.Refs.length:Int))),(4,(.eq (.map (some g2)))),(5,(.tv (kInt .i64) (w64 (i6+(1:Int)))))] ⟨R,R,R,R,trivial⟩ (At.r ⟨(mset (rd (⟨#[]⟩:BA) o1.Refs i6) true x6),(w64 (i6+(1:Int))),hF,R,R⟩)
    ·replace hF:=W.ite_f hb14 hF
     refine At.exit ?_
     refine At.x (At.x ?_)
     refine At.h ?_
     refine At.vh ?_
     refine At.w [0] R [(1,(.eq (.pointer (some ⟨g1,0,none⟩)))),(3,(.tv (kInt .i64) (o1.Refs.length:Int)))] ⟨R,R,trivial⟩ (At.r ⟨(),hF,R,R⟩)
  ·rintro _ _ ⟨_,hF,rfl,rfl⟩
   unfold ref11_refs.c1 at hF
   refine At.seq (At.seq (At.region (At.d R R R R (je (ja R) fa_59_1) ?_)))
   refine At.d R R R R (jc (ja R) 0 R sub_Object_1 ty_3) ?_
   refine At.done (At.vh (At.block (At.seq (At.region (At.d R R R R (jk (ja R) (ji _ _) bin_eql) ?_)))))
   refine At.d R R R R (jd (x:=(.tv kBool (o1.Kind==(1:Int)))) (ja R)) ?_
   refine At.done (At.vh ?_)
   refine At.cond (ja R) (fun hb6=>?_) (fun hb6=>?_)
   ·replace hF:=W.ite_t hb6 hF
    refine At.seq (At.region (At.d R R R R (jb (x:=(.tv (kInt .i64) (o1.Refs.length:Int))) (ja R)) ?_))
    refine At.d R R R R (jk (ja R) (ji _ _) bin_eql) ?_
    refine At.d R R R R (jd (x:=(.tv kBool ((o1.Refs.length:Int)==(0:Int)))) (ja R)) ?_
    refine At.done (At.vh (At.ret ?_))
    refine At.q ?_
    refine At.vi ?_
    exact At.j rfl (rv_tmp rfl) [] rfl ⟨((o1.Refs.length:Int)==(0:Int)),hF,rfl,rfl⟩
   ·replace hF:=W.ite_f hb6 hF
    refine At.seq (At.region (At.d R R R R (jk (ja R) (ji _ _) bin_eql) ?_))
    refine At.d R R R R (jd (x:=(.tv kBool (o1.Kind==(2:Int)))) (ja R)) ?_
    refine At.done (At.vh ?_)
    refine At.cond (ja R) (fun hb7=>?_) (fun hb7=>?_)
    ·replace hF:=W.ite_t hb7 hF
     refine At.seq (At.region (At.d R R R R (jb (x:=(.tv (kInt .i64) (o1.Refs.length:Int))) (ja R)) ?_))
     refine At.d R R R R (jk (ja R) (ji _ _) bin_geq) ?_
     refine At.d R R R R (jd (x:=(.tv kBool (decide ((2:Int)≤(o1.Refs.length:Int))))) (ja R)) ?_
     refine At.done (At.vh (At.ret ?_))
     refine At.q ?_
     refine At.vi ?_
     exact At.j rfl (rv_tmp rfl) [] rfl ⟨(decide ((2:Int)≤(o1.Refs.length:Int))),hF,rfl,rfl⟩
    ·replace hF:=W.ite_f hb7 hF
     refine At.seq (At.region (At.d R R R R (jk (ja R) (ji _ _) bin_eql) ?_))
     refine At.d R R R R (jd (x:=(.tv kBool (o1.Kind==(3:Int)))) (ja R)) ?_
     refine At.done (At.vh ?_)
     refine At.cond (ja R) (fun hb8=>?_) (fun hb8=>?_)
     ·replace hF:=W.ite_t hb8 hF
      refine At.seq (At.region (At.d R R R R (jb (x:=(.tv (kInt .i64) (o1.Refs.length:Int))) (ja R)) ?_))
      refine At.d R R R R (jk (ja R) (ji _ _) bin_geq) ?_
      refine At.d R R R R (jd (x:=(.tv kBool (decide ((3:Int)≤(o1.Refs.length:Int))))) (ja R)) ?_
      refine At.done (At.vh (At.ret ?_))
      refine At.q ?_
      refine At.vi ?_
      exact At.j rfl (rv_tmp rfl) [] rfl ⟨(decide ((3:Int)≤(o1.Refs.length:Int))),hF,rfl,rfl⟩
     ·replace hF:=W.ite_f hb8 hF
      refine At.seq (At.region (At.d R R R R (jk (ja R) (ji _ _) bin_eql) ?_))
      refine At.d R R R R (jd (x:=(.tv kBool (o1.Kind==(4:Int)))) (ja R)) ?_
      refine At.done (At.vh ?_)
      refine At.cond (ja R) (fun hb9=>?_) (fun hb9=>?_)
      ·replace hF:=W.ite_t hb9 hF
       refine At.seq (At.region (At.d R R R R (jb (x:=(.tv (kInt .i64) (o1.Refs.length:Int))) (ja R)) ?_))
       refine At.d R R R R (jk (ja R) (ji _ _) bin_geq) ?_
       refine At.d R R R R (jd (x:=(.tv kBool (decide ((1:Int)≤(o1.Refs.length:Int))))) (ja R)) ?_
       refine At.done (At.vh (At.ret ?_))
       refine At.q ?_
       refine At.vi ?_
       exact At.j rfl (rv_tmp rfl) [] rfl ⟨(decide ((1:Int)≤(o1.Refs.length:Int))),hF,rfl,rfl⟩
      ·replace hF:=W.ite_f hb9 hF
       refine At.skip ?_
       refine At.n ?_
       refine At.vh (At.seq (At.region (At.d R R R R (jb (x:=(.tv (kInt .i64) (o1.Refs.length:Int))) (ja R)) ?_)))
       refine At.d R R R R (jk (ja R) (ji _ _) bin_eql) ?_
       refine At.d R R R R (jd (x:=(.tv kBool ((o1.Refs.length:Int)==(3:Int)))) (ja R)) ?_
       refine At.done (At.vh (At.ret ?_))
       exact At.j rfl (rv_tmp rfl) [] rfl ⟨((o1.Refs.length:Int)==(3:Int)),hF,rfl,rfl⟩
def ref11_Valid.c1 (o1:Object) (at1:Bool):W Bool:=W.bind (ref08_Name.F o1.Id) (fun r2=>W.bind (W.ite r2 (ref11_Word.F o1.Kind) (W.ret (⟨#[]⟩:BA))) (fun r3=>W.bind (W.ite ((r2&&(!(sEq r3 (⟨#[]⟩:BA))))&&at1) (ref11_Tags.F o1.Tags) (W.ret false)) (fun r4=>W.bind (W.ite (((r2&&(!(sEq r3 (⟨#[]⟩:BA))))&&at1)&&r4) (ref11_refs.F o1) (W.ret false)) (fun r5=>W.ret ((((r2&&(!(sEq r3 (⟨#[]⟩:BA))))&&at1)&&r4)&&r5)))))
def ref11_Valid.F (o1:Object):W Bool:=W.bind (ref11_On.F o1.At) (fun r1=>W.ite (o1.Kind != (1:Int)) ((ref11_Valid.c1 o1) (eq_Point o1.At (⟨(0:Int),(0:Int)⟩:Point))) ((ref11_Valid.c1 o1) r1))
theorem ref11_Valid.ok {o1:Object} {Q:Bool→Prop} (hF:ref11_Valid.F o1 Q):Con Tryz.prog 75 [.tv kObject o1] [] (fun ta rs'=>∃ (r:Bool),Q r∧ta=.tv kBool r∧rs'=[]):=by
 refine Con.i Tryz.func75 Tryz.ntmps75 R R (fun C=>?_)
 unfold ref11_Valid.F at hF
 refine At.seq (At.region (At.f R (jw R R R (ja R)) ?_))
 rintro _ _ ⟨g1,rfl,rfl⟩
 refine At.d R R R R (jd (x:=(.tv kBool false)) (jl _)) ?_
 refine At.done (At.vh (At.seq (At.region (At.d R R R R (je (ja R) fa_59_2) ?_))))
 refine At.d R R R R (jc (ja R) 0 R sub_Object_2 ty_37) ?_
 replace hF:=W.vm hF
 refine At.f R (jn R R jp (jq R en_123 (jf (ja R) jg)) (ref11_On.ok hF) (by rintro _ _ ⟨r,_,rfl,_⟩;exact vl)) ?_
 rintro _ _ ⟨_,_,⟨r1,hF,rfl,rfl⟩,rfl,rfl⟩
 refine At.d R R R R (jd (x:=(.tv kBool r1)) (ja R)) ?_
 refine At.done (At.vh ?_)
 refine At.cut (fun rs L=>∃ (at1:Bool),ref11_Valid.c1 o1 at1 Q∧rs=[.box g1 59 kObject o1]∧L=mkL [(1,(.eq (.pointer (some ⟨g1,0,none⟩)))),(3,(.tv kBool at1))]) ?_ ?_
 ·refine At.seq (At.region (At.d R R R R (je (ja R) fa_59_1) ?_))
  refine At.d R R R R (jc (ja R) 0 R sub_Object_1 ty_3) ?_
  refine At.d R R R R (jk (ja R) (ji _ _) bin_neq) ?_
  refine At.done (At.vh ?_)
  refine At.cond (ja R) (fun hb2=>?_) (fun hb2=>?_)
  ·replace hF:=W.ite_t hb2 hF
   refine At.region (At.d R R R R (je (ja R) fa_59_2) ?_)
   refine At.d R R R R (jc (ja R) 0 R sub_Object_2 ty_37) ?_
   refine At.d R R R R (jz parts_nil zr_37 bd_37 R fills_nil) ?_
   refine At.d R R R R (jk (ja R) (ja R) (bin_eq eqty_37)) ?_
   refine At.d R R R R (jd (x:=(.tv kBool (eq_Point o1.At (⟨(0:Int),(0:Int)⟩:Point)))) (ja R)) ?_
   refine At.done (At.vh ?_)
   refine At.w [0] R [(1,(.eq (.pointer (some ⟨g1,0,none⟩)))),(3,(.tv kBool (eq_Point o1.At (⟨(0:Int),(0:Int)⟩:Point))))] ⟨R,R,trivial⟩ (At.r ⟨(eq_Point o1.At (⟨(0:Int),(0:Int)⟩:Point)),hF,R,R⟩)
  ·replace hF:=W.ite_f hb2 hF
   refine At.skip (At.vh ?_)
   refine At.w [0] R [(1,(.eq (.pointer (some ⟨g1,0,none⟩)))),(3,(.tv kBool r1))] ⟨R,R,trivial⟩ (At.r ⟨r1,hF,R,R⟩)
 ·rintro _ _ ⟨at1,hF,rfl,rfl⟩
  unfold ref11_Valid.c1 at hF
  refine At.seq (At.region (At.d R R R R (je (ja R) fa_59_0) ?_))
  refine At.d R R R R (jc (ja R) 0 R sub_Object_0 ty_9) ?_
  replace hF:=W.vm hF
  refine At.f R (jn R R jp (jq R en_124 (jf (ja R) jg)) (ref08_Name.ok hF) (by rintro _ _ ⟨r,_,rfl,_⟩;exact vl)) ?_
  rintro _ _ ⟨_,_,⟨r2,hF,rfl,rfl⟩,rfl,rfl⟩
  refine At.d R R R R (jb (x:=(.tv kBool r2)) (ja R)) ?_
  refine At.vj R R R R (ju R) R (fun hg1=>(je (ja R) fa_59_1)) ?_
  refine At.vj R R R R (ju R) R (fun hg2=>(jc (jh R hg2) 0 R sub_Object_1 ty_3)) ?_
  replace hF:=W.vm hF
  refine At.effG R R R R (ju R) hF (fun r=>.tv kStr r) (fun hg3 hF=>eff_of (jn R R jp (jq R en_125 (jf (jh R hg3) jg)) (ref11_Word.ok hF) (by rintro _ _ ⟨r,_,rfl,_⟩;exact flat_str)) (by rintro _ _ ⟨_,_,⟨r,hF,rfl,rfl⟩,rfl,rfl⟩;exact ⟨r,hF,R,R⟩)) (fun r3 hF=>?_)
  refine At.vj R R R R (ju R) R (fun hg4=>(jk (jh R hg4) (vg _) bin_sneq)) ?_
  refine At.d R R R R (jm (ja R) (ja R) (jl _) ve) ?_
  refine At.d R R R R (jb (x:=(.tv kBool (r2&&(!(sEq r3 (⟨#[]⟩:BA)))))) (ja R)) ?_
  refine At.vj R R R R (ju R) R (fun hg5=>(jb (x:=(.tv kBool at1)) (ja R))) ?_
  refine At.d R R R R (jm (ja R) (ja R) (jl _) ve) ?_
  refine At.d R R R R (jb (x:=(.tv kBool ((r2&&(!(sEq r3 (⟨#[]⟩:BA))))&&at1))) (ja R)) ?_
  refine At.vj R R R R (ju R) R (fun hg6=>(je (ja R) fa_59_4)) ?_
  refine At.vj R R R R (ju R) R (fun hg7=>(jc (jh R hg7) 0 R sub_Object_4 ty_57)) ?_
  replace hF:=W.vm hF
  refine At.effG R R R R (ju R) hF (fun r=>.tv kBool r) (fun hg8 hF=>eff_of (jn R R jp (jq R en_126 (jf (jh R hg8) jg)) (ref11_Tags.ok hF) (by rintro _ _ ⟨r,_,rfl,_⟩;exact vl)) (by rintro _ _ ⟨_,_,⟨r,hF,rfl,rfl⟩,rfl,rfl⟩;exact ⟨r,hF,R,R⟩)) (fun r4 hF=>?_)
  refine At.d R R R R (jm (ja R) (ja R) (jl _) ve) ?_
  refine At.d R R R R (jb (x:=(.tv kBool (((r2&&(!(sEq r3 (⟨#[]⟩:BA))))&&at1)&&r4))) (ja R)) ?_
  refine At.vj R R R R (ju R) R (fun hg9=>(jc (ja R) 0 R (Sub.self kObject) ty_59)) ?_
  replace hF:=W.vm hF
  refine At.effG R R R R (ju R) hF (fun r=>.tv kBool r) (fun hg10 hF=>eff_of (jn R R jp (jq R en_127 (jf (jh R hg10) jg)) (ref11_refs.ok hF) (by rintro _ _ ⟨r,_,rfl,_⟩;exact vl)) (by rintro _ _ ⟨_,_,⟨r,hF,rfl,rfl⟩,rfl,rfl⟩;exact ⟨r,hF,R,R⟩)) (fun r5 hF=>?_)
  refine At.d R R R R (jm (ja R) (ja R) (jl _) ve) ?_
  refine At.d R R R R (jd (x:=(.tv kBool ((((r2&&(!(sEq r3 (⟨#[]⟩:BA))))&&at1)&&r4)&&r5))) (ja R)) ?_
  refine At.done (At.vh (At.ret ?_))
  exact At.j rfl (rv_tmp rfl) [] rfl ⟨((((r2&&(!(sEq r3 (⟨#[]⟩:BA))))&&at1)&&r4)&&r5),hF,rfl,rfl⟩
def ref13_Valid.c1:W Bool:=W.ret true
def ref13_Valid.l1 (m1:Map) (K1:W Bool) (A1:Int→W Bool) (i6:Int):W Bool:=W.ite (decide (i6<(m1.Objects.length:Int))) (W.req (0≤i6∧i6<(m1.Objects.length:Int)) (W.bind (ref11_Valid.F (rd zObject m1.Objects i6)) (fun r5=>W.req (((!(!r5))&&(decide ((0:Int)<i6)))=true→0≤(w64 (i6-(1:Int)))∧(w64 (i6-(1:Int)))<(m1.Objects.length:Int)) (W.req (((!(!r5))&&(decide ((0:Int)<i6)))=true→0≤i6∧i6<(m1.Objects.length:Int)) (W.ite ((!r5)||((decide ((0:Int)<i6))&&(!(sLt ((rd zObject m1.Objects (w64 (i6-(1:Int)))).Id) ((rd zObject m1.Objects i6).Id))))) (W.ret false) (A1 (w64 (i6+(1:Int))))))))) (K1)
def ref13_Valid.F (m1:Map):W Bool:=W.ite (decide ((1000000:Int)<(m1.Objects.length:Int))) (W.ret false) (W.ex fun n=>W.iter1 (ref13_Valid.l1 m1 (ref13_Valid.c1)) n (0:Int))
theorem ref13_Valid.ok {m1:Map} {Q:Bool→Prop} (hF:ref13_Valid.F m1 Q):Con Tryz.prog 47 [.tv kMap m1] [] (fun ta rs'=>∃ (r:Bool),Q r∧ta=.tv kBool r∧rs'=[]):=by
 refine Con.i Tryz.func47 Tryz.ntmps47 R R (fun C=>?_)
 unfold ref13_Valid.F at hF
 refine At.seq (At.region (At.f R (jw R R R (ja R)) ?_))
 rintro _ _ ⟨g1,rfl,rfl⟩
 refine At.d R R R R (jd (x:=(.tv kBool false)) (jl _)) ?_
 refine At.done (At.vh (At.seq (At.seq (At.region (At.d R R R R (je (ja R) fa_24_0) ?_)))))
 refine At.d R R R R (jc (ja R) 0 R sub_Map_0 ty_22) ?_
 refine At.d R R R R (js (ja R) Tryz.underlying22) ?_
 refine At.d R R R R (jk (ja R) (ji _ _) bin_gtr) ?_
 refine At.done (At.vh ?_)
 refine At.cond (ja R) (fun hb1=>?_) (fun hb1=>?_)
 ·replace hF:=W.ite_t hb1 hF
  refine At.seq (At.region (At.d R R R R (jd (x:=(.tv kBool false)) (jl _)) ?_))
  refine At.done (At.vh (At.ret (At.vi ?_)))
  exact At.j rfl (rv_tmp rfl) [] rfl ⟨false,hF,rfl,rfl⟩
 ·replace hF:=W.ite_f hb1 hF
  refine At.skip (At.vh ?_)
  refine At.cut (fun rs L=>∃ _:Unit,ref13_Valid.c1 Q∧rs=[]∧L=mkL []) ?_ ?_
  ·refine At.seq (At.region (At.d R R R R (jd (x:=(.tv (kInt .i64) (0:Int))) (ji _ _)) ?_))
   refine At.done (At.vh (At.block ?_))
   obtain ⟨n1,hF⟩:=hF
   refine At.w [0] R [(1,(.eq (.pointer (some ⟨g1,0,none⟩)))),(3,(.tv (kInt .i64) (0:Int)))] ⟨R,R,trivial⟩ ?_
   refine At.loop (fun m rs L=>∃ (i6:Int),W.iter1 (ref13_Valid.l1 m1 (ref13_Valid.c1)) m i6 Q∧rs=[.box g1 24 kMap m1]∧L=mkL [(1,(.eq (.pointer (some ⟨g1,0,none⟩)))),(3,(.tv (kInt .i64) i6))]) ?_ ?_ (m:=n1) ⟨(0:Int),hF,R,R⟩
   ·rintro rs L ⟨_,hF,_,_⟩;exact hF
   ·rintro m2 _ _ ⟨i6,hF,rfl,rfl⟩
    replace hF:=W.iter1_s hF
    unfold ref13_Valid.l1 at hF
    refine At.seq (At.seq (At.region (At.d R R R R (jb (x:=(.tv (kInt .i64) i6)) (ja R)) ?_)))
    refine At.d R R R R (je (ja R) fa_24_0) ?_
    refine At.d R R R R (jc (ja R) 0 R sub_Map_0 ty_22) ?_
    refine At.d R R R R (js (ja R) Tryz.underlying22) ?_
    refine At.d R R R R (jk (ja R) (ja R) vd) ?_
    refine At.done (At.vh ?_)
    refine At.cond (ja R) (fun hb10=>?_) (fun hb10=>?_)
    ·replace hF:=W.ite_t hb10 hF
     refine At.skip (At.vh (At.seq (At.block (At.seq ?_))))
     refine At.draw mixed [0] R [[]] (fun φ w hgd=>?_)
     obtain ⟨hq13,hF⟩:=hF
     replace hF:=W.vm hF
     refine AtH.take [0] hgd 0 R R R R (D':=#[Y,N,N,N,N,N,N,N,N,N,N,N,N,N,N,N,N,N,N,N,N,N,N,N,N,N,N]) (by kernel_rfl) (fun _ _ _ _ h=>h) R (je (ja R) fa_24_0) ?_
     refine AtH.take [0] hgd 1 R R R R (D':=#[Y,Y,N,N,N,N,N,N,N,N,N,N,N,N,N,N,N,N,N,N,N,N,N,N,N,N,N]) (by kernel_rfl) (fun _ _ _ _ h=>h) R (jc (ja R) 0 R sub_Map_0 ty_22) ?_
     refine AtH.take [0] hgd 2 R R R R (D':=#[Y,Y,Y,N,N,N,N,N,N,N,N,N,N,N,N,N,N,N,N,N,N,N,N,N,N,N,N]) (by kernel_rfl) (fun _ _ _ _ h=>h) R (jb (x:=(.tv (kInt .i64) i6)) (ja R)) ?_
     refine AtH.take [0] hgd 3 R R R R (D':=#[Y,Y,Y,Y,N,N,N,N,N,N,N,N,N,N,N,N,N,N,N,N,N,N,N,N,N,N,N]) (by kernel_rfl) (fun _ _ _ _ h=>h) R (vf zObject (ja R) (ja R) Tryz.underlying22 ty_59 hq13) ?_
     refine AtH.take [0] hgd 4 R R R R (D':=#[Y,Y,Y,Y,Y,N,N,N,N,N,N,N,N,N,N,N,N,N,N,N,N,N,N,N,N,N,N]) (by kernel_rfl) (fun _ _ _ _ h=>h) R (vq (K:=kObject) (ja R) ty_59) ?_
     refine AtH.all1 5 (by kernel_rfl) ?_
     refine AtH.f [(0,0)] R R R R R R (jn R R jp (jq R en_75 (jf (ja R) jg)) (ref11_Valid.ok hF) (by rintro _ _ ⟨r,_,rfl,_⟩;exact vl)) (D':=#[Y,Y,Y,Y,Y,Y,N,N,N,N,N,N,N,N,N,N,N,N,N,N,N,N,N,N,N,N,N]) (by kernel_rfl) (by kernel_rfl) ?_
     rintro _ _ ⟨_,_,⟨r5,hF,rfl,rfl⟩,rfl,rfl⟩
     refine ⟨_,.inr ⟨R,vl⟩,?_⟩
     obtain ⟨hq14,hF⟩:=hF
     obtain ⟨hq15,hF⟩:=hF
     refine AtH.take [0] hgd 6 R R R R (D':=#[Y,Y,Y,Y,Y,Y,Y,N,N,N,N,N,N,N,N,N,N,N,N,N,N,N,N,N,N,N,N]) (by kernel_rfl) (fun _ _ _ _ h=>h) R (does_not (ja R)) ?_
     refine AtH.take [0] hgd 7 R R R R (D':=#[Y,Y,Y,Y,Y,Y,Y,Y,N,N,N,N,N,N,N,N,N,N,N,N,N,N,N,N,N,N,N]) (by kernel_rfl) (fun _ _ _ _ h=>h) R (jb (x:=(.tv kBool (!r5))) (ja R)) ?_
     refine AtH.vk [0] hgd 8 R R R (jv R) R R (D':=#[Y,Y,Y,Y,Y,Y,Y,Y,Y,N,N,N,N,N,N,N,N,N,N,N,N,N,N,N,N,N,N]) (by kernel_rfl) (fun _ _ _ _ h=>h) R (fun hg163=>(jb (x:=(.tv (kInt .i64) i6)) (ja R))) ?_
     refine AtH.vk [0] hgd 9 R R R (jv R) R R (D':=#[Y,Y,Y,Y,Y,Y,Y,Y,Y,Y,N,N,N,N,N,N,N,N,N,N,N,N,N,N,N,N,N]) (by kernel_rfl) (fun _ _ _ _ h=>h) R (fun hg164=>(jk (jh R hg164) (ji _ _) bin_gtr)) ?_
     refine AtH.vk [0] hgd 10 R R R (jv R) R R (D':=#[Y,Y,Y,Y,Y,Y,Y,Y,Y,Y,Y,N,N,N,N,N,N,N,N,N,N,N,N,N,N,N,N]) (by kernel_rfl) (fun _ _ _ _ h=>h) R (fun hg165=>(jb (x:=(.tv kBool (decide ((0:Int)<i6)))) (jh R hg165))) ?_
     refine AtH.vk [0] hgd 11 R R R (jt R) R R (D':=#[Y,Y,Y,Y,Y,Y,Y,Y,Y,Y,Y,Y,N,N,N,N,N,N,N,N,N,N,N,N,N,N,N]) (by kernel_rfl) (fun _ _ _ _ h=>h) R (fun hg166=>(je (ja R) fa_24_0)) ?_
     refine AtH.vk [0] hgd 12 R R R (jt R) R R (D':=#[Y,Y,Y,Y,Y,Y,Y,Y,Y,Y,Y,Y,Y,N,N,N,N,N,N,N,N,N,N,N,N,N,N]) (by kernel_rfl) (fun _ _ _ _ h=>h) R (fun hg167=>(jc (jh R hg167) 0 R sub_Map_0 ty_22)) ?_
     refine AtH.vk [0] hgd 13 R R R (jt R) R R (D':=#[Y,Y,Y,Y,Y,Y,Y,Y,Y,Y,Y,Y,Y,Y,N,N,N,N,N,N,N,N,N,N,N,N,N]) (by kernel_rfl) (fun _ _ _ _ h=>h) R (fun hg168=>(jb (x:=(.tv (kInt .i64) i6)) (ja R))) ?_
     refine AtH.vk [0] hgd 14 R R R (jt R) R R (D':=#[Y,Y,Y,Y,Y,Y,Y,Y,Y,Y,Y,Y,Y,Y,Y,N,N,N,N,N,N,N,N,N,N,N,N]) (by kernel_rfl) (fun _ _ _ _ h=>h) R (fun hg169=>(jk (jh R hg169) (ji _ _) bin_sub)) ?_
     refine AtH.vk [0] hgd 15 R R R (jt R) R R (D':=#[Y,Y,Y,Y,Y,Y,Y,Y,Y,Y,Y,Y,Y,Y,Y,Y,N,N,N,N,N,N,N,N,N,N,N]) (by kernel_rfl) (fun _ _ _ _ h=>h) R (fun hg170=>(vf zObject (jh R hg170) (jh R hg170) Tryz.underlying22 ty_59 (hq14 hg170))) ?_
     refine AtH.vk [0] hgd 16 R R R (jt R) R R (D':=#[Y,Y,Y,Y,Y,Y,Y,Y,Y,Y,Y,Y,Y,Y,Y,Y,Y,N,N,N,N,N,N,N,N,N,N]) (by kernel_rfl) (fun _ _ _ _ h=>h) R (fun hg171=>(Jd (K:=kObject) (jh R hg171) fa_59_0 sub_Object_0)) ?_
     refine AtH.vk [0] hgd 17 R R R (jt R) R R (D':=#[Y,Y,Y,Y,Y,Y,Y,Y,Y,Y,Y,Y,Y,Y,Y,Y,Y,Y,N,N,N,N,N,N,N,N,N]) (by kernel_rfl) (fun _ _ _ _ h=>h) R (fun hg172=>(vq (K:=kStr) (jh R hg172) ty_9)) ?_
     refine AtH.vk [0] hgd 18 R R R (jt R) R R (D':=#[Y,Y,Y,Y,Y,Y,Y,Y,Y,Y,Y,Y,Y,Y,Y,Y,Y,Y,Y,N,N,N,N,N,N,N,N]) (by kernel_rfl) (fun _ _ _ _ h=>h) R (fun hg173=>(je (ja R) fa_24_0)) ?_
     refine AtH.vk [0] hgd 19 R R R (jt R) R R (D':=#[Y,Y,Y,Y,Y,Y,Y,Y,Y,Y,Y,Y,Y,Y,Y,Y,Y,Y,Y,Y,N,N,N,N,N,N,N]) (by kernel_rfl) (fun _ _ _ _ h=>h) R (fun hg174=>(jc (jh R hg174) 0 R sub_Map_0 ty_22)) ?_
     refine AtH.vk [0] hgd 20 R R R (jt R) R R (D':=#[Y,Y,Y,Y,Y,Y,Y,Y,Y,Y,Y,Y,Y,Y,Y,Y,Y,Y,Y,Y,Y,N,N,N,N,N,N]) (by kernel_rfl) (fun _ _ _ _ h=>h) R (fun hg175=>(jb (x:=(.tv (kInt .i64) i6)) (ja R))) ?_
     refine AtH.vk [0] hgd 21 R R R (jt R) R R (D':=#[Y,Y,Y,Y,Y,Y,Y,Y,Y,Y,Y,Y,Y,Y,Y,Y,Y,Y,Y,Y,Y,Y,N,N,N,N,N]) (by kernel_rfl) (fun _ _ _ _ h=>h) R (fun hg176=>(vf zObject (jh R hg176) (jh R hg176) Tryz.underlying22 ty_59 (hq15 hg176))) ?_
     refine AtH.vk [0] hgd 22 R R R (jt R) R R (D':=#[Y,Y,Y,Y,Y,Y,Y,Y,Y,Y,Y,Y,Y,Y,Y,Y,Y,Y,Y,Y,Y,Y,Y,N,N,N,N]) (by kernel_rfl) (fun _ _ _ _ h=>h) R (fun hg177=>(Jd (K:=kObject) (jh R hg177) fa_59_0 sub_Object_0)) ?_
     refine AtH.vk [0] hgd 23 R R R (jt R) R R (D':=#[Y,Y,Y,Y,Y,Y,Y,Y,Y,Y,Y,Y,Y,Y,Y,Y,Y,Y,Y,Y,Y,Y,Y,Y,N,N,N]) (by kernel_rfl) (fun _ _ _ _ h=>h) R (fun hg178=>(vq (K:=kStr) (jh R hg178) ty_9)) ?_
     refine AtH.vk [0] hgd 24 R R R (jt R) R R (D':=#[Y,Y,Y,Y,Y,Y,Y,Y,Y,Y,Y,Y,Y,Y,Y,Y,Y,Y,Y,Y,Y,Y,Y,Y,Y,N,N]) (by kernel_rfl) (fun _ _ _ _ h=>h) R (fun hg179=>(jk (jh R hg179) (jh R hg179) bin_sgeq)) ?_
     refine AtH.vk [0] hgd 25 R R R (jv R) R R (D':=#[Y,Y,Y,Y,Y,Y,Y,Y,Y,Y,Y,Y,Y,Y,Y,Y,Y,Y,Y,Y,Y,Y,Y,Y,Y,Y,N]) (by kernel_rfl) (fun _ _ _ _ h=>h) R (fun hg180=>(jm (jh R hg180) (ja R) (jl _) (pick_andG (and_of hg180)))) ?_
     refine AtH.take [0] hgd 26 R R R R (D':=#[Y,Y,Y,Y,Y,Y,Y,Y,Y,Y,Y,Y,Y,Y,Y,Y,Y,Y,Y,Y,Y,Y,Y,Y,Y,Y,Y]) (by kernel_rfl) (fun _ _ _ _ h=>h) R (jm (ja R) (jl _) (ja R) pick_or) ?_
     refine AtH.done (by kernel_rfl) ?_
     refine At.vh ?_
     refine At.cond (ja R) (fun hb11=>?_) (fun hb11=>?_)
     ·replace hF:=W.ite_t hb11 hF
      refine At.seq (At.region (At.d R R R R (jd (x:=(.tv kBool false)) (jl _)) ?_))
      refine At.done (At.vh (At.ret ?_))
      refine At.q ?_
      refine At.vi (At.vi ?_)
      refine At.q ?_
      refine At.vi ?_
      exact At.j rfl (rv_tmp rfl) [] rfl ⟨false,hF,rfl,rfl⟩
     ·replace hF:=W.ite_f hb11 hF
      refine At.skip ?_
      refine At.n ?_
      refine At.vh (At.region (At.d R R R R (jb (x:=(.tv (kInt .i64) i6)) (ja R)) ?_))
      refine At.d R R R R (jk (ja R) (ji _ _) vc) ?_
      refine At.d R R R R (jd (x:=(.tv (kInt .i64) (w64 (i6+(1:Int))))) (ja R)) ?_
      refine At.done (At.vh ?_)
      refine At.w [0] R [(1,(.eq (.pointer (some ⟨g1,0,none⟩)))),(3,(.tv (kInt .i64) (w64 (i6+(1:Int)))))] ⟨R,R,trivial⟩ (At.r ⟨(w64 (i6+(1:Int))),hF,R,R⟩)
    ·replace hF:=W.ite_f hb10 hF
     refine At.exit ?_
     refine At.x (At.x ?_)
     refine At.h ?_
     refine At.vh ?_
     refine At.w [] R [] trivial (At.r ⟨(),hF,R,R⟩)
  ·rintro _ _ ⟨_,hF,rfl,rfl⟩
   unfold ref13_Valid.c1 at hF
   refine At.seq (At.region (At.d R R R R (jd (x:=(.tv kBool true)) (jl _)) ?_))
   refine At.done (At.vh (At.ret ?_))
   exact At.j rfl (rv_tmp rfl) [] rfl ⟨true,hF,rfl,rfl⟩
end Go.Gp.Gb
end
