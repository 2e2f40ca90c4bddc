/- Part. -/
import Derived.Test.YtfophhmfbofjiaaGreatP9x02
section
set_option linter.unusedVariables false
set_option linter.unusedSimpArgs false
set_option maxRecDepth 100000
namespace Go.Gp.Gb
open Go.Proofs
def Jq.c4 (x91:(List Violation)):W (List Violation):=W.bind (Vo.F x91) (fun r35=>W.ret r35)
def Jq.l1 (K4:(List Violation)→W (List Violation)) (A1:(List Violation)→(List ((BA×BA)×Bool))→W (List Violation)) (x96:(List Violation)) (x97:(List ((BA×BA)×Bool))):W (List Violation):=W.next x97 (((⟨#[]⟩:BA),(⟨#[]⟩:BA)),false) (fun b16 e16 l7=>W.ite b16 (W.req (b16=true) (W.bind (vt.F ([e16.1.1,e16.1.2]:List BA)) (fun r38=>W.req ((x96.length+([(⟨(⟨#[]⟩:BA),(2:Int),r38⟩:Violation)]:List Violation).length)*48≤140737488355328∧x96.length+([(⟨(⟨#[]⟩:BA),(2:Int),r38⟩:Violation)]:List Violation).length≤140737488355328) (A1 (x96++([(⟨(⟨#[]⟩:BA),(2:Int),r38⟩:Violation)]:List Violation)) l7)))) (K4 x96))
def Jq.c3 (x84:(List ((BA×BA)×Bool))):W (List Violation):=W.ex fun n=>W.iter2 (Jq.l1 (Jq.c4)) n ([]:List Violation) x84
def Jq.c6 (t69:Int) (A3:(List ((BA×BA)×Bool))→Int→W (List Violation)) (x146:(List ((BA×BA)×Bool))):W (List Violation):=A3 x146 (w64 (t69+(1:Int)))
def Jq.l4 (x130:Jv) (x131:Jv) (t69:Int) (K6:(List ((BA×BA)×Bool))→W (List Violation)) (A4:(List ((BA×BA)×Bool))→Int→W (List Violation)) (x149:(List ((BA×BA)×Bool))) (t75:Int):W (List Violation):=W.ite (decide (t75<(x131.owners.length:Int))) (W.req (0≤t75∧t75<(x131.owners.length:Int)) (W.bind (wv.F (rd (⟨#[]⟩:BA) x130.owners t69) (rd (⟨#[]⟩:BA) x131.owners t75) x149) (fun r61=>A4 r61 (w64 (t75+(1:Int)))))) (K6 x149)
def Jq.l3 (A2:(List ((Int×Int)×Int))→(List ((BA×BA)×Bool))→W (List Violation)) (l10:(List ((Int×Int)×Int))) (x130:Jv) (x131:Jv) (A3:(List ((BA×BA)×Bool))→Int→W (List Violation)) (x142:(List ((BA×BA)×Bool))) (t69:Int):W (List Violation):=W.ite (decide (t69<(x130.owners.length:Int))) (W.req (0≤t69∧t69<(x130.owners.length:Int)) (W.ex fun n=>W.iter2 (Jq.l4 x130 x131 t69 (Jq.c6 t69 A3)) n x142 (0:Int))) (A2 l10 x142)
def Jq.c5 (x129:(List ((BA×BA)×Bool))) (A2:(List ((Int×Int)×Int))→(List ((BA×BA)×Bool))→W (List Violation)) (e22:((Int×Int)×Int)) (l10:(List ((Int×Int)×Int))) (x130:Jv) (x131:Jv):W (List Violation):=W.bind (Jm.F ([x131.nodes.1,x131.nodes.2]:List BA) x130.nodes.1) (fun r51=>W.bind (W.ite (!r51) (Jm.F ([x131.nodes.1,x131.nodes.2]:List BA) x130.nodes.2) (W.ret false)) (fun r52=>W.ite ((eq_a50 x130.nodes x131.nodes)||((e22.2==(1:Int))&&(r51||r52))) (A2 l10 x129) (W.ex fun n=>W.iter2 (Jq.l3 A2 l10 x130 x131) n x129 (0:Int))))
def Jq.l2 (r2:(List Jv)) (K3:(List ((BA×BA)×Bool))→W (List Violation)) (A2:(List ((Int×Int)×Int))→(List ((BA×BA)×Bool))→W (List Violation)) (x128:(List ((Int×Int)×Int))) (x129:(List ((BA×BA)×Bool))):W (List Violation):=W.next x128 (((0:Int),(0:Int)),(0:Int)) (fun b22 e22 l10=>W.ite b22 (W.req (b22=true) (W.req (0≤e22.1.1∧e22.1.1<(r2.length:Int)) (W.req (0≤e22.1.2∧e22.1.2<(r2.length:Int)) ((Jq.c5 x129 A2 e22 l10) (rd Vd r2 e22.1.1) (rd Vd r2 e22.1.2))))) (K3 x129))
def Jq.c2 (r1:(Va×Bool)) (r2:(List Jv)) (x47:(List ((BA×BA)×Bool))) (x51:(List Int)):W (List Violation):=W.bind (Jj.F r1.1 r2) (fun r19=>W.bind (vu.F r19 x51 ([]:(List ((Int×Int)×Int)))) (fun r20=>W.ex fun n=>W.iter2 (Jq.l2 r2 (Jq.c3)) n r20 x47))
def Jq.l5 (r2:(List Jv)) (K2:(List Int)→W (List Violation)) (A5:(List Int)→Int→W (List Violation)) (x152:(List Int)) (t78:Int):W (List Violation):=W.ite (decide (t78<(r2.length:Int))) (W.req ((x152.length+([t78]:List Int).length)*8≤140737488355328∧x152.length+([t78]:List Int).length≤140737488355328) (A5 (x152++([t78]:List Int)) (w64 (t78+(1:Int))))) (K2 x152)
def Jq.c1 (r1:(Va×Bool)) (r2:(List Jv)) (x47:(List ((BA×BA)×Bool))):W (List Violation):=W.ex fun n=>W.iter2 (Jq.l5 r2 (Jq.c2 r1 r2 x47)) n ([]:List Int) (0:Int)
def Jq.c7 (t99:Int) (A6:(List (Point×(List BA)))→(List ((BA×BA)×Bool))→Int→W (List Violation)) (x217:(List (Point×(List BA)))) (x218:(List ((BA×BA)×Bool))):W (List Violation):=A6 x217 x218 (w64 (t99+(1:Int)))
def Jq.c8 (t117:Int) (A7:(List (Point×(List BA)))→(List ((BA×BA)×Bool))→Int→W (List Violation)) (x241:(List (Point×(List BA)))) (x242:(List ((BA×BA)×Bool))):W (List Violation):=A7 x241 x242 (w64 (t117+(1:Int)))
def Jq.c9 (r2:(List Jv)) (t99:Int) (x235:(List (Point×(List BA)))) (t117:Int) (K8:(List (Point×(List BA)))→(List ((BA×BA)×Bool))→W (List Violation)) (r98:Point) (x246:(List ((BA×BA)×Bool))):W (List Violation):=W.req (((mget r98 ([]:List BA) x235).length+([(yh ((rd Vd r2 t99).nodes) t117)]:List BA).length)*16≤140737488355328∧(mget r98 ([]:List BA) x235).length+([(yh ((rd Vd r2 t99).nodes) t117)]:List BA).length≤140737488355328) (K8 (mset r98 ((mget r98 ([]:List BA) x235)++([(yh ((rd Vd r2 t99).nodes) t117)]:List BA)) x235) x246)
def Jq.l8 (r2:(List Jv)) (t99:Int) (x235:(List (Point×(List BA)))) (t117:Int) (r98:Point) (K9:(List ((BA×BA)×Bool))→W (List Violation)) (A8:(List ((BA×BA)×Bool))→Int→W (List Violation)) (x249:(List ((BA×BA)×Bool))) (t126:Int):W (List Violation):=W.ite (decide (t126<((mget r98 ([]:List BA) x235).length:Int))) (W.req (0≤t126∧t126<((mget r98 ([]:List BA) x235).length:Int)) (W.req (0≤t126∧t126<((mget r98 ([]:List BA) x235).length:Int)) (W.bind (wv.F (rd (⟨#[]⟩:BA) (mget r98 ([]:List BA) x235) t126) (yh ((rd Vd r2 t99).nodes) t117) x249) (fun r104=>A8 r104 (w64 (t126+(1:Int))))))) (K9 x249)
def Jq.l7 (r1:(Va×Bool)) (r2:(List Jv)) (t99:Int) (K7:(List (Point×(List BA)))→(List ((BA×BA)×Bool))→W (List Violation)) (A7:(List (Point×(List BA)))→(List ((BA×BA)×Bool))→Int→W (List Violation)) (x235:(List (Point×(List BA)))) (x236:(List ((BA×BA)×Bool))) (t117:Int):W (List Violation):=W.ite (decide (t117<(2:Int))) (W.req (0≤t117∧t117<(2:Int)) (W.bind (qh.F r1.1 (yh ((rd Vd r2 t99).nodes) t117)) (fun r98=>W.bind (Jm.F (mget r98 ([]:List BA) x235) (yh ((rd Vd r2 t99).nodes) t117)) (fun r99=>W.ite (!r99) (W.ex fun n=>W.iter2 (Jq.l8 r2 t99 x235 t117 r98 (Jq.c9 r2 t99 x235 t117 (Jq.c8 t117 A7) r98)) n x236 (0:Int)) ((Jq.c8 t117 A7) x235 x236))))) (K7 x235 x236)
def Jq.l6 (r1:(Va×Bool)) (r2:(List Jv)) (K1:(List ((BA×BA)×Bool))→W (List Violation)) (A6:(List (Point×(List BA)))→(List ((BA×BA)×Bool))→Int→W (List Violation)) (x197:(List (Point×(List BA)))) (x198:(List ((BA×BA)×Bool))) (t99:Int):W (List Violation):=W.ite (decide (t99<(r2.length:Int))) (W.req (0≤t99∧t99<(r2.length:Int)) (W.req (0≤t99∧t99<(r2.length:Int)) (W.ex fun n=>W.iter3 (Jq.l7 r1 r2 t99 (Jq.c7 t99 A6)) n x197 x198 (0:Int)))) (K1 x198)
def Jq.F (m1:Map):W (List Violation):=W.bind (wg.F m1) (fun r1=>W.ite (!r1.2) (W.ret ([]:List Violation)) (W.bind (Jd.F r1.1) (fun r2=>W.ex fun n=>W.iter3 (Jq.l6 r1 r2 (Jq.c1 r1 r2)) n ([]:(List (Point×(List BA)))) ([]:(List ((BA×BA)×Bool))) (0:Int))))
theorem Jq.ok {m1:Map} {Q:(List Violation)→Prop} (hF:Jq.F m1 Q):Con Tryz.prog 16 [.tv kMap m1] [] (fun ta rs'=>∃ (r:(List Violation)) (u0:Value),Q r∧ta=.eq u0∧rs'=[.row u0 43 kViolation r]):=by
 refine Con.i Tryz.func16 Tryz.ntmps16 R R (fun C=>?_)
 unfold Jq.F at hF
 refine At.seq (At.region (At.f R (jy R R R (ja R)) ?_))
 rintro _ _ ⟨g1,rfl,rfl⟩
 refine At.d R R R R (jd (x:=(.eq (.slice none 0 0))) (opd_eq _)) ?_
 refine At.done (At.vl (At.seq (At.region (At.d R R R R (jc (ja R) 0 R (Sub.self kMap) ty_24) ?_))))
 replace hF:=W.vq hF
 refine At.f R (jo R R (jq R en_30 (jf (ja R) jg)) [] R (wg.ok hF)) ?_
 rintro _ _ ⟨_,_,⟨r1,hF,rfl,rfl⟩,rfl,rfl⟩
 refine At.d R R R R (jb (x:=(.tup2 (.tv Jy r1.1) (.tv kBool r1.2))) (ja R)) ?_
 refine At.d R R R R (does_extract20 (ja R)) ?_
 refine At.d R R R R (does_extract21 (ja R)) ?_
 refine At.f R (eff_alloc R R R tz_76) ?_
 rintro _ _ ⟨g2,rfl,rfl⟩
 refine At.f R (jz R R (ja R) 0 R (Sub.self Jy) ty_76 (ja R)) ?_
 rintro _ _ ⟨rfl,rfl⟩
 refine At.d R R R R (jd (x:=(.tv kBool r1.2)) (ja R)) ?_
 refine At.done (At.vl (At.seq (At.seq (At.region (At.d R R R R (jb (x:=(.tv kBool r1.2)) (ja R)) ?_)))))
 refine At.d R R R R (ve (ja R)) ?_
 refine At.done (At.vl ?_)
 refine At.cond (ja R) (fun hb1=>?_) (fun hb1=>?_)
 ·replace hF:=W.ite_t hb1 hF
  refine At.seq (At.region (At.d R R R R (jd (x:=(.eq (.slice none 0 0))) (opd_eq _)) ?_))
  refine At.done (At.vl (At.ret (At.vm ?_)))
  refine At.nilrow 43 kViolation ?_
  exact At.j rfl (rv_tmp rfl) [0] rfl ⟨([]:List Violation),_,hF,rfl,rfl⟩
 ·replace hF:=W.ite_f hb1 hF
  refine At.skip (At.vl (At.seq (At.region (At.d R R R R (jc (ja R) 0 R (Sub.self Jy) ty_76) ?_))))
  replace hF:=W.vq hF
  refine At.f R (jo R R (jq R en_31 (jf (ja R) jg)) [] R (Jd.ok hF)) ?_
  rintro _ _ ⟨_,_,⟨r2,v1,hF,rfl,rfl⟩,rfl,rfl⟩
  refine At.d R R R R (jd (x:=(.eq v1)) (ja R)) ?_
  refine At.done (At.vl (At.seq (At.region (At.f R (eff_makeMap R R R (kPair kStr kStr) kBool) ?_))))
  rintro _ _ ⟨g3,rfl,rfl⟩
  refine At.f R (eff_alloc R R R tz_47) ?_
  rintro _ _ ⟨g4,rfl,rfl⟩
  refine At.f R (eff_store_swap (K':=kRaw) (x':=(.map (some g3))) R R (ja R) 0 R (Swap.whole R) tyr_47 (opd_raw (ja R) R)) ?_
  rintro _ _ ⟨rfl,rfl⟩
  refine At.done (At.vl (At.seq (At.region (At.d R R R R (does_cls (firsts:=[]) (caps:=[.tmp 6]) R (jf (ja R) jg)) ?_))))
  refine At.d R R R R (jd (x:=(.cls 34 0 (tupl [(.eq (.pointer (some ⟨g4,0,none⟩)))]))) (ja R)) ?_
  refine At.done (At.vl (At.seq (At.region (At.f R (eff_makeMapR R R R kPoint 9 kStr) ?_))))
  rintro _ _ ⟨g5,rfl,rfl⟩
  refine At.d R R R R (jd (x:=(.eq (.map (some g5)))) (ja R)) ?_
  refine At.done (At.vl ?_)
  refine At.cut (fun rs L=>∃ (x47:(List ((BA×BA)×Bool))),Jq.c1 r1 r2 x47 Q∧rs=[.box g2 76 Jy r1.1,.row v1 82 Ju r2,.box g4 47 kRaw (.map (some g3)),.map g3 (kPair kStr kStr) kBool x47]∧L=mkL [(3,(.eq (.pointer (some ⟨g2,0,none⟩)))),(5,(.eq v1)),(6,(.eq (.pointer (some ⟨g4,0,none⟩)))),(7,(.cls 34 0 (tupl [(.eq (.pointer (some ⟨g4,0,none⟩)))])))]) ?_ ?_
  ·refine At.seq (At.region (At.d R R R R (jb (x:=(.eq v1)) (ja R)) ?_))
   refine At.d R R R R (does_len_row (ja R) 3 R Tryz.underlying79) ?_
   refine At.d R R R R (jb (x:=(.tv (kInt .i64) (0:Int))) (ji _ _)) ?_
   refine At.done (At.vl (At.block ?_))
   obtain ⟨n8,hF⟩:=hF
   refine At.w [4,3,1,0,2] R [(3,(.eq (.pointer (some ⟨g2,0,none⟩)))),(5,(.eq v1)),(6,(.eq (.pointer (some ⟨g4,0,none⟩)))),(7,(.cls 34 0 (tupl [(.eq (.pointer (some ⟨g4,0,none⟩)))]))),(8,(.eq (.map (some g5)))),(42,(.eq v1)),(43,(.tv (kInt .i64) (r2.length:Int))),(44,(.tv (kInt .i64) (0:Int)))] ⟨R,R,R,R,R,R,R,R,trivial⟩ ?_
   refine At.loop (fun m rs L=>∃ (x197:(List (Point×(List BA)))) (w46:List Value) (x198:(List ((BA×BA)×Bool))) (t99:Int),W.iter3 (Jq.l6 r1 r2 (Jq.c1 r1 r2)) m x197 x198 t99 Q∧rs=[.box g2 76 Jy r1.1,.row v1 82 Ju r2,.box g4 47 kRaw (.map (some g3)),.mrow g5 kPoint 9 kStr w46 x197,.map g3 (kPair kStr kStr) kBool x198]∧L=mkL [(3,(.eq (.pointer (some ⟨g2,0,none⟩)))),(5,(.eq v1)),(6,(.eq (.pointer (some ⟨g4,0,none⟩)))),(7,(.cls 34 0 (tupl [(.eq (.pointer (some ⟨g4,0,none⟩)))]))),(8,(.eq (.map (some g5)))),(42,(.eq v1)),(43,(.tv (kInt .i64) (r2.length:Int))),(44,(.tv (kInt .i64) t99))]) ?_ ?_ (m:=n8) ⟨([]:(List (Point×(List BA)))),[],([]:(List ((BA×BA)×Bool))),(0:Int),hF,R,R⟩
   ·rintro rs L ⟨_,_,_,_,hF,_,_⟩;exact hF
   ·rintro m7 _ _ ⟨x197,w46,x198,t99,hF,rfl,rfl⟩
    replace hF:=W.iter3_s hF
    unfold Jq.l6 at hF
    refine At.seq (At.region (At.d R R R R (jk (ja R) (ja R) vg) ?_))
    refine At.done (At.vl (At.seq ?_))
    refine At.cond (ja R) (fun hb94=>?_) (fun hb94=>?_)
    ·replace hF:=W.ite_t hb94 hF
     refine At.skip (At.vl ?_)
     refine At.cut (fun rs L=>∃ (x217:(List (Point×(List BA)))) (w56:List Value) (x218:(List ((BA×BA)×Bool))),Jq.c7 t99 (W.iter3 (Jq.l6 r1 r2 (Jq.c1 r1 r2)) m7) x217 x218 Q∧rs=[.box g2 76 Jy r1.1,.row v1 82 Ju r2,.box g4 47 kRaw (.map (some g3)),.mrow g5 kPoint 9 kStr w56 x217,.map g3 (kPair kStr kStr) kBool x218]∧L=mkL [(3,(.eq (.pointer (some ⟨g2,0,none⟩)))),(5,(.eq v1)),(6,(.eq (.pointer (some ⟨g4,0,none⟩)))),(7,(.cls 34 0 (tupl [(.eq (.pointer (some ⟨g4,0,none⟩)))]))),(8,(.eq (.map (some g5)))),(42,(.eq v1)),(43,(.tv (kInt .i64) (r2.length:Int))),(44,(.tv (kInt .i64) t99))]) ?_ ?_
     ·refine At.block (At.seq (At.region ?_))
      obtain ⟨hq140,hF⟩:=hF
      refine At.d R R R R (does_idx_row (ja R) 1 R (ja R) Tryz.underlying79 ty_82 hq140) ?_
      obtain ⟨hq141,hF⟩:=hF
      refine At.d R R R R (Jh (ja R) 1 R t99 0 R Vd hq141 (Sub.self Ju) ty_82) ?_
      refine At.f R (eff_alloc R R R tz_82) ?_
      rintro _ _ ⟨g82,rfl,rfl⟩
      refine At.f R (jz R R (ja R) 0 R (Sub.self Ju) ty_82 (ja R)) ?_
      rintro _ _ ⟨rfl,rfl⟩
      refine At.done (At.vl (At.seq (At.region (At.d R R R R (je (ja R) zu) ?_))))
      refine At.d R R R R (jc (ja R) 0 R wj ty_50) ?_
      refine At.d R R R R (jb (x:=(.tv (kInt .i64) (0:Int))) (ji _ _)) ?_
      refine At.done (At.vl (At.block ?_))
      obtain ⟨n7,hF⟩:=hF
      refine At.w [1,2,3,4,5] R [(3,(.eq (.pointer (some ⟨g2,0,none⟩)))),(5,(.eq v1)),(6,(.eq (.pointer (some ⟨g4,0,none⟩)))),(7,(.cls 34 0 (tupl [(.eq (.pointer (some ⟨g4,0,none⟩)))]))),(8,(.eq (.map (some g5)))),(42,(.eq v1)),(43,(.tv (kInt .i64) (r2.length:Int))),(44,(.tv (kInt .i64) t99)),(49,(.tv (kPair kStr kStr) ((rd Vd r2 t99).nodes))),(50,(.tv (kInt .i64) (0:Int)))] ⟨R,R,R,R,R,R,R,R,R,R,trivial⟩ ?_
      refine At.loop (fun m rs L=>∃ (x235:(List (Point×(List BA)))) (w65:List Value) (x236:(List ((BA×BA)×Bool))) (t117:Int),W.iter3 (Jq.l7 r1 r2 t99 (Jq.c7 t99 (W.iter3 (Jq.l6 r1 r2 (Jq.c1 r1 r2)) m7))) m x235 x236 t117 Q∧rs=[.box g2 76 Jy r1.1,.row v1 82 Ju r2,.box g4 47 kRaw (.map (some g3)),.mrow g5 kPoint 9 kStr w65 x235,.map g3 (kPair kStr kStr) kBool x236]∧L=mkL [(3,(.eq (.pointer (some ⟨g2,0,none⟩)))),(5,(.eq v1)),(6,(.eq (.pointer (some ⟨g4,0,none⟩)))),(7,(.cls 34 0 (tupl [(.eq (.pointer (some ⟨g4,0,none⟩)))]))),(8,(.eq (.map (some g5)))),(42,(.eq v1)),(43,(.tv (kInt .i64) (r2.length:Int))),(44,(.tv (kInt .i64) t99)),(49,(.tv (kPair kStr kStr) ((rd Vd r2 t99).nodes))),(50,(.tv (kInt .i64) t117))]) ?_ ?_ (m:=n7) ⟨x197,w46,x198,(0:Int),hF,R,R⟩
      ·rintro rs L ⟨_,_,_,_,hF,_,_⟩;exact hF
      ·rintro m8 _ _ ⟨x235,w65,x236,t117,hF,rfl,rfl⟩
       replace hF:=W.iter3_s hF
       unfold Jq.l7 at hF
       refine At.seq (At.region (At.d R R R R (jk (ja R) (ji _ _) vg) ?_))
       refine At.done (At.vl (At.seq ?_))
       refine At.cond (ja R) (fun hb111=>?_) (fun hb111=>?_)
       ·replace hF:=W.ite_t hb111 hF
        refine At.skip (At.vl ?_)
        refine At.cut (fun rs L=>∃ (x241:(List (Point×(List BA)))) (w68:List Value) (x242:(List ((BA×BA)×Bool))),Jq.c8 t117 (W.iter3 (Jq.l7 r1 r2 t99 (Jq.c7 t99 (W.iter3 (Jq.l6 r1 r2 (Jq.c1 r1 r2)) m7))) m8) x241 x242 Q∧rs=[.box g2 76 Jy r1.1,.row v1 82 Ju r2,.box g4 47 kRaw (.map (some g3)),.mrow g5 kPoint 9 kStr w68 x241,.map g3 (kPair kStr kStr) kBool x242]∧L=mkL [(3,(.eq (.pointer (some ⟨g2,0,none⟩)))),(5,(.eq v1)),(6,(.eq (.pointer (some ⟨g4,0,none⟩)))),(7,(.cls 34 0 (tupl [(.eq (.pointer (some ⟨g4,0,none⟩)))]))),(8,(.eq (.map (some g5)))),(42,(.eq v1)),(43,(.tv (kInt .i64) (r2.length:Int))),(44,(.tv (kInt .i64) t99)),(49,(.tv (kPair kStr kStr) ((rd Vd r2 t99).nodes))),(50,(.tv (kInt .i64) t117))]) ?_ ?_
        ·refine At.block (At.seq (At.region ?_))
         obtain ⟨hq160,hF⟩:=hF
         refine At.d R R R R (does_index_arr (n:=2) (sz:=1) (K:=(kPair kStr kStr)) R (ja R) (ja R) Tryz.underlying50 ty_9 R hq160 (subv_50 hq160)) ?_
         refine At.d R R R R (jd (x:=(.tv kStr (yh ((rd Vd r2 t99).nodes) t117))) (ja R)) ?_
         refine At.done (At.vl (At.seq (At.region (At.d R R R R (jc (ja R) 0 R (Sub.self Jy) ty_76) ?_))))
         refine At.d R R R R (jb (x:=(.tv kStr (yh ((rd Vd r2 t99).nodes) t117))) (ja R)) ?_
         replace hF:=W.vq hF
         refine At.f R (jn R R jp (jq R en_35 (jf (ja R) (jf (ja R) jg))) (qh.ok hF) (by rintro _ _ ⟨r,_,rfl,_⟩;exact (flat_tv ja5))) ?_
         rintro _ _ ⟨_,_,⟨r98,hF,rfl,rfl⟩,rfl,rfl⟩
         refine At.f R (eff_alloc R R R tz_37) ?_
         rintro _ _ ⟨g86,rfl,rfl⟩
         refine At.f R (jz R R (ja R) 0 R (Sub.self kPoint) ty_37 (ja R)) ?_
         rintro _ _ ⟨rfl,rfl⟩
         refine At.done (At.vl (At.seq (At.region (At.d R R R R (jb (x:=(.eq (.map (some g5)))) (ja R)) ?_))))
         refine At.d R R R R (jc (ja R) 0 R (Sub.self kPoint) ty_37) ?_
         refine At.f R (eff_lookR R R R (ja R) 4 R mtr_86 (ja R)) ?_
         rintro _ _ ⟨v107,j40,s40,rfl,rfl⟩
         refine At.d R R R R (jb (x:=(.tv kStr (yh ((rd Vd r2 t99).nodes) t117))) (ja R)) ?_
         replace hF:=W.vq hF
         refine At.f R (jn R R (lends_row 0 58 R R jp) (jq R en_36 (jf (ja R) (jf (ja R) jg))) (Jm.ok hF) (by rintro _ _ ⟨r,_,rfl,_⟩;exact vp)) ?_
         rintro _ _ ⟨_,_,⟨r99,hF,rfl,rfl⟩,rfl,rfl⟩
         refine At.d R R R R (ve (ja R)) ?_
         refine At.done (At.vl ?_)
         refine At.cond (ja R) (fun hb115=>?_) (fun hb115=>?_)
         ·replace hF:=W.ite_t hb115 hF
          refine At.cut (fun rs L=>∃ (x246:(List ((BA×BA)×Bool))),Jq.c9 r2 t99 x235 t117 (Jq.c8 t117 (W.iter3 (Jq.l7 r1 r2 t99 (Jq.c7 t99 (W.iter3 (Jq.l6 r1 r2 (Jq.c1 r1 r2)) m7))) m8)) r98 x246 Q∧rs=[.box g2 76 Jy r1.1,.row v1 82 Ju r2,.box g4 47 kRaw (.map (some g3)),.mrow g5 kPoint 9 kStr w65 x235,.box g86 37 kPoint r98,.map g3 (kPair kStr kStr) kBool x246]∧L=mkL [(3,(.eq (.pointer (some ⟨g2,0,none⟩)))),(5,(.eq v1)),(6,(.eq (.pointer (some ⟨g4,0,none⟩)))),(7,(.cls 34 0 (tupl [(.eq (.pointer (some ⟨g4,0,none⟩)))]))),(8,(.eq (.map (some g5)))),(12,(.tv kStr (yh ((rd Vd r2 t99).nodes) t117))),(13,(.eq (.pointer (some ⟨g86,0,none⟩)))),(42,(.eq v1)),(43,(.tv (kInt .i64) (r2.length:Int))),(44,(.tv (kInt .i64) t99)),(49,(.tv (kPair kStr kStr) ((rd Vd r2 t99).nodes))),(50,(.tv (kInt .i64) t117))]) ?_ ?_
          ·refine At.seq (At.region (At.d R R R R (jb (x:=(.eq (.map (some g5)))) (ja R)) ?_))
           refine At.d R R R R (jc (ja R) 1 R (Sub.self kPoint) ty_37) ?_
           refine At.mclose 5 0 R R R ?_
           refine At.f R (eff_lookR R R R (ja R) 5 R mtr_86 (ja R)) ?_
           rintro _ _ ⟨v112,j43,s43,rfl,rfl⟩
           refine At.d R R R R (does_len_row (ja R) 0 R Tryz.underlying41) ?_
           refine At.d R R R R (jb (x:=(.tv (kInt .i64) (0:Int))) (ji _ _)) ?_
           refine At.done (At.vl (At.block ?_))
           obtain ⟨n6,hF⟩:=hF
           refine At.w [3,4,5,6,2,0,7] R [(3,(.eq (.pointer (some ⟨g2,0,none⟩)))),(5,(.eq v1)),(6,(.eq (.pointer (some ⟨g4,0,none⟩)))),(7,(.cls 34 0 (tupl [(.eq (.pointer (some ⟨g4,0,none⟩)))]))),(8,(.eq (.map (some g5)))),(12,(.tv kStr (yh ((rd Vd r2 t99).nodes) t117))),(13,(.eq (.pointer (some ⟨g86,0,none⟩)))),(42,(.eq v1)),(43,(.tv (kInt .i64) (r2.length:Int))),(44,(.tv (kInt .i64) t99)),(49,(.tv (kPair kStr kStr) ((rd Vd r2 t99).nodes))),(50,(.tv (kInt .i64) t117)),(64,(.eq v112)),(65,(.tv (kInt .i64) ((mget r98 ([]:List BA) x235).length:Int))),(66,(.tv (kInt .i64) (0:Int)))] ⟨R,R,R,R,R,R,R,R,R,R,R,R,R,R,R,trivial⟩ ?_
           refine At.loop (fun m rs L=>∃ (x249:(List ((BA×BA)×Bool))) (t126:Int),W.iter2 (Jq.l8 r2 t99 x235 t117 r98 (Jq.c9 r2 t99 x235 t117 (Jq.c8 t117 (W.iter3 (Jq.l7 r1 r2 t99 (Jq.c7 t99 (W.iter3 (Jq.l6 r1 r2 (Jq.c1 r1 r2)) m7))) m8)) r98)) m x249 t126 Q∧rs=[.box g2 76 Jy r1.1,.row v1 82 Ju r2,.box g4 47 kRaw (.map (some g3)),.mhole g5 kPoint 9 kStr w65 x235 r98 j43 v112 s43,.box g86 37 kPoint r98,.row v112 9 kStr (mget r98 ([]:List BA) x235),.map g3 (kPair kStr kStr) kBool x249]∧L=mkL [(3,(.eq (.pointer (some ⟨g2,0,none⟩)))),(5,(.eq v1)),(6,(.eq (.pointer (some ⟨g4,0,none⟩)))),(7,(.cls 34 0 (tupl [(.eq (.pointer (some ⟨g4,0,none⟩)))]))),(8,(.eq (.map (some g5)))),(12,(.tv kStr (yh ((rd Vd r2 t99).nodes) t117))),(13,(.eq (.pointer (some ⟨g86,0,none⟩)))),(42,(.eq v1)),(43,(.tv (kInt .i64) (r2.length:Int))),(44,(.tv (kInt .i64) t99)),(49,(.tv (kPair kStr kStr) ((rd Vd r2 t99).nodes))),(50,(.tv (kInt .i64) t117)),(64,(.eq v112)),(65,(.tv (kInt .i64) ((mget r98 ([]:List BA) x235).length:Int))),(66,(.tv (kInt .i64) t126))]) ?_ ?_ (m:=n6) ⟨x236,(0:Int),hF,R,R⟩
           ·rintro rs L ⟨_,_,hF,_,_⟩;exact hF
           ·rintro m9 _ _ ⟨x249,t126,hF,rfl,rfl⟩
            replace hF:=W.iter2_s hF
            unfold Jq.l8 at hF
            refine At.seq (At.region (At.d R R R R (jk (ja R) (ja R) vg) ?_))
            refine At.done (At.vl (At.seq ?_))
            refine At.cond (ja R) (fun hb120=>?_) (fun hb120=>?_)
            ·replace hF:=W.ite_t hb120 hF
             refine At.skip (At.vl (At.seq (At.block (At.seq (At.region ?_)))))
             obtain ⟨hq170,hF⟩:=hF
             refine At.d R R R R (does_idx_row (ja R) 5 R (ja R) Tryz.underlying41 ty_9 hq170) ?_
             obtain ⟨hq171,hF⟩:=hF
             refine At.d R R R R (Jh (ja R) 5 R t126 0 R (⟨#[]⟩:BA) hq171 (Sub.self kStr) ty_9) ?_
             refine At.d R R R R (jd (x:=(.tv kStr (rd (⟨#[]⟩:BA) (mget r98 ([]:List BA) x235) t126))) (ja R)) ?_
             refine At.done (At.vl (At.region (At.d R R R R (jb (x:=(.cls 34 0 (tupl [(.eq (.pointer (some ⟨g4,0,none⟩)))]))) (ja R)) ?_)))
             refine At.d R R R R (jb (x:=(.tv kStr (rd (⟨#[]⟩:BA) (mget r98 ([]:List BA) x235) t126))) (ja R)) ?_
             refine At.d R R R R (jb (x:=(.tv kStr (yh ((rd Vd r2 t99).nodes) t117))) (ja R)) ?_
             replace hF:=W.vq hF
             refine At.f R (jo R R (ent_val0 R (ja R) en_34 (jf (ja R) (jf (ja R) jg))) [2,6] R (wv.ok hF)) ?_
             rintro _ _ ⟨_,_,⟨r104,hF,rfl,rfl⟩,rfl,rfl⟩
             refine At.done ?_
             refine At.n ?_
             refine At.vl (At.region (At.d R R R R (jk (ja R) (ji _ _) vf) ?_))
             refine At.d R R R R (jb (x:=(.tv (kInt .i64) (w64 (t126+(1:Int))))) (ja R)) ?_
             refine At.done (At.vl ?_)
             refine At.w [2,3,0,5,6,7,1] R [(3,(.eq (.pointer (some ⟨g2,0,none⟩)))),(5,(.eq v1)),(6,(.eq (.pointer (some ⟨g4,0,none⟩)))),(7,(.cls 34 0 (tupl [(.eq (.pointer (some ⟨g4,0,none⟩)))]))),(8,(.eq (.map (some g5)))),(12,(.tv kStr (yh ((rd Vd r2 t99).nodes) t117))),(13,(.eq (.pointer (some ⟨g86,0,none⟩)))),(42,(.eq v1)),(43,(.tv (kInt .i64) (r2.length:Int))),(44,(.tv (kInt .i64) t99)),(49,(.tv (kPair kStr kStr) ((rd Vd r2 t99).nodes))),(50,(.tv (kInt .i64) t117)),(64,(.eq v112)),(65,(.tv (kInt .i64) ((mget r98 ([]:List BA) x235).length:Int))),(66,(.tv (kInt .i64) (w64 (t126+(1:Int)))))] ⟨R,R,R,R,R,R,R,R,R,R,R,R,R,R,R,trivial⟩ (At.r ⟨r104,(w64 (t126+(1:Int))),hF,R,R⟩)
            ·replace hF:=W.ite_f hb120 hF
             refine At.exit ?_
             refine At.x (At.x ?_)
             refine At.h ?_
             refine At.vl ?_
             refine At.mclose 3 5 R R R ?_
             refine At.w [0,1,2,3,4,6] R [(3,(.eq (.pointer (some ⟨g2,0,none⟩)))),(5,(.eq v1)),(6,(.eq (.pointer (some ⟨g4,0,none⟩)))),(7,(.cls 34 0 (tupl [(.eq (.pointer (some ⟨g4,0,none⟩)))]))),(8,(.eq (.map (some g5)))),(12,(.tv kStr (yh ((rd Vd r2 t99).nodes) t117))),(13,(.eq (.pointer (some ⟨g86,0,none⟩)))),(42,(.eq v1)),(43,(.tv (kInt .i64) (r2.length:Int))),(44,(.tv (kInt .i64) t99)),(49,(.tv (kPair kStr kStr) ((rd Vd r2 t99).nodes))),(50,(.tv (kInt .i64) t117))] ⟨R,R,R,R,R,R,R,R,R,R,R,R,trivial⟩ (At.r ⟨x249,hF,R,R⟩)
          ·rintro _ _ ⟨x246,hF,rfl,rfl⟩
           unfold Jq.c9 at hF
           refine At.region (At.d R R R R (jb (x:=(.eq (.map (some g5)))) (ja R)) ?_)
           refine At.d R R R R (jc (ja R) 4 R (Sub.self kPoint) ty_37) ?_
           refine At.d R R R R (jb (x:=(.tv kStr (yh ((rd Vd r2 t99).nodes) t117))) (ja R)) ?_
           refine At.f R (vc R R R (os:=[.tmp 78]) R sl_41 (xs:=([(yh ((rd Vd r2 t99).nodes) t117)]:List BA)) (jf (ja R) jg) R R) ?_
           rintro _ _ ⟨v109,rfl,rfl⟩
           refine At.f R (eff_mapEntry R R R (ja R) 4 R mtr_86 (ja R)) ?_
           rintro _ _ ⟨v110,w69,j42,s42,rfl,rfl⟩
           refine At.d R R R R (does_extract20 (ja R)) ?_
           obtain ⟨hq165,hF⟩:=hF
           refine At.f R (eff_append_row R R R 0 1 R R (ja R) (ja R) sl_41 hq165) ?_
           rintro _ _ ⟨v111,rfl,rfl⟩
           refine At.d R R R R (does_extract21 (ja R)) ?_
           refine At.f R (eff_entryStore R R (ja R) 5 0 R R (ja R) R (ja R)) ?_
           rintro _ _ ⟨w70,rfl,rfl⟩
           refine At.done ?_
           refine At.n ?_
           refine At.vl ?_
           refine At.w [2,3,4,5,7] R [(3,(.eq (.pointer (some ⟨g2,0,none⟩)))),(5,(.eq v1)),(6,(.eq (.pointer (some ⟨g4,0,none⟩)))),(7,(.cls 34 0 (tupl [(.eq (.pointer (some ⟨g4,0,none⟩)))]))),(8,(.eq (.map (some g5)))),(42,(.eq v1)),(43,(.tv (kInt .i64) (r2.length:Int))),(44,(.tv (kInt .i64) t99)),(49,(.tv (kPair kStr kStr) ((rd Vd r2 t99).nodes))),(50,(.tv (kInt .i64) t117))] ⟨R,R,R,R,R,R,R,R,R,R,trivial⟩ (At.r ⟨(mset r98 ((mget r98 ([]:List BA) x235)++([(yh ((rd Vd r2 t99).nodes) t117)]:List BA)) x235),w70,x246,hF,R,R⟩)
         ·replace hF:=W.ite_f hb115 hF
          refine At.skip ?_
          refine At.n ?_
          refine At.vl ?_
          refine At.mclose 5 0 R R R ?_
          refine At.w [2,3,4,5,6] R [(3,(.eq (.pointer (some ⟨g2,0,none⟩)))),(5,(.eq v1)),(6,(.eq (.pointer (some ⟨g4,0,none⟩)))),(7,(.cls 34 0 (tupl [(.eq (.pointer (some ⟨g4,0,none⟩)))]))),(8,(.eq (.map (some g5)))),(42,(.eq v1)),(43,(.tv (kInt .i64) (r2.length:Int))),(44,(.tv (kInt .i64) t99)),(49,(.tv (kPair kStr kStr) ((rd Vd r2 t99).nodes))),(50,(.tv (kInt .i64) t117))] ⟨R,R,R,R,R,R,R,R,R,R,trivial⟩ (At.r ⟨x235,w65,x236,hF,R,R⟩)
        ·rintro _ _ ⟨x241,w68,x242,hF,rfl,rfl⟩
         unfold Jq.c8 at hF
         refine At.region (At.d R R R R (jk (ja R) (ji _ _) vf) ?_)
         refine At.d R R R R (jb (x:=(.tv (kInt .i64) (w64 (t117+(1:Int))))) (ja R)) ?_
         refine At.done (At.vl ?_)
         refine At.w [0,1,2,3,4] R [(3,(.eq (.pointer (some ⟨g2,0,none⟩)))),(5,(.eq v1)),(6,(.eq (.pointer (some ⟨g4,0,none⟩)))),(7,(.cls 34 0 (tupl [(.eq (.pointer (some ⟨g4,0,none⟩)))]))),(8,(.eq (.map (some g5)))),(42,(.eq v1)),(43,(.tv (kInt .i64) (r2.length:Int))),(44,(.tv (kInt .i64) t99)),(49,(.tv (kPair kStr kStr) ((rd Vd r2 t99).nodes))),(50,(.tv (kInt .i64) (w64 (t117+(1:Int)))))] ⟨R,R,R,R,R,R,R,R,R,R,trivial⟩ (At.r ⟨x241,w68,x242,(w64 (t117+(1:Int))),hF,R,R⟩)
       ·replace hF:=W.ite_f hb111 hF
        refine At.exit ?_
        refine At.x (At.x ?_)
        refine At.h ?_
        refine At.n ?_
        refine At.vl ?_
        refine At.w [0,1,2,3,4] R [(3,(.eq (.pointer (some ⟨g2,0,none⟩)))),(5,(.eq v1)),(6,(.eq (.pointer (some ⟨g4,0,none⟩)))),(7,(.cls 34 0 (tupl [(.eq (.pointer (some ⟨g4,0,none⟩)))]))),(8,(.eq (.map (some g5)))),(42,(.eq v1)),(43,(.tv (kInt .i64) (r2.length:Int))),(44,(.tv (kInt .i64) t99))] ⟨R,R,R,R,R,R,R,R,trivial⟩ (At.r ⟨x235,w65,x236,hF,R,R⟩)
     ·rintro _ _ ⟨x217,w56,x218,hF,rfl,rfl⟩
      unfold Jq.c7 at hF
      refine At.region (At.d R R R R (jk (ja R) (ji _ _) vf) ?_)
      refine At.d R R R R (jb (x:=(.tv (kInt .i64) (w64 (t99+(1:Int))))) (ja R)) ?_
      refine At.done (At.vl ?_)
      refine At.w [0,1,2,3,4] R [(3,(.eq (.pointer (some ⟨g2,0,none⟩)))),(5,(.eq v1)),(6,(.eq (.pointer (some ⟨g4,0,none⟩)))),(7,(.cls 34 0 (tupl [(.eq (.pointer (some ⟨g4,0,none⟩)))]))),(8,(.eq (.map (some g5)))),(42,(.eq v1)),(43,(.tv (kInt .i64) (r2.length:Int))),(44,(.tv (kInt .i64) (w64 (t99+(1:Int)))))] ⟨R,R,R,R,R,R,R,R,trivial⟩ (At.r ⟨x217,w56,x218,(w64 (t99+(1:Int))),hF,R,R⟩)
    ·replace hF:=W.ite_f hb94 hF
     refine At.exit ?_
     refine At.x (At.x ?_)
     refine At.h ?_
     refine At.vl ?_
     refine At.w [0,1,2,4] R [(3,(.eq (.pointer (some ⟨g2,0,none⟩)))),(5,(.eq v1)),(6,(.eq (.pointer (some ⟨g4,0,none⟩)))),(7,(.cls 34 0 (tupl [(.eq (.pointer (some ⟨g4,0,none⟩)))])))] ⟨R,R,R,R,trivial⟩ (At.r ⟨x198,hF,R,R⟩)
  ·rintro _ _ ⟨x47,hF,rfl,rfl⟩
   unfold Jq.c1 at hF
   refine At.seq (At.region (At.d R R R R (jd (x:=(.eq (.slice none 0 0))) (opd_eq _)) ?_))
   refine At.done (At.vl ?_)
   refine At.cut (fun rs L=>∃ (x51:(List Int)) (v29:Value),Jq.c2 r1 r2 x47 x51 Q∧rs=[.box g2 76 Jy r1.1,.row v1 82 Ju r2,.box g4 47 kRaw (.map (some g3)),.row v29 3 (kInt .i64) x51,.map g3 (kPair kStr kStr) kBool x47]∧L=mkL [(3,(.eq (.pointer (some ⟨g2,0,none⟩)))),(5,(.eq v1)),(6,(.eq (.pointer (some ⟨g4,0,none⟩)))),(7,(.cls 34 0 (tupl [(.eq (.pointer (some ⟨g4,0,none⟩)))]))),(16,(.eq v29))]) ?_ ?_
   ·refine At.seq (At.region (At.d R R R R (jb (x:=(.eq v1)) (ja R)) ?_))
    refine At.d R R R R (does_len_row (ja R) 1 R Tryz.underlying79) ?_
    refine At.d R R R R (jb (x:=(.tv (kInt .i64) (0:Int))) (ji _ _)) ?_
    refine At.done (At.vl (At.block ?_))
    refine At.nilrow 3 (kInt .i64) ?_
    obtain ⟨n5,hF⟩:=hF
    refine At.w [1,2,3,0,4] R [(3,(.eq (.pointer (some ⟨g2,0,none⟩)))),(5,(.eq v1)),(6,(.eq (.pointer (some ⟨g4,0,none⟩)))),(7,(.cls 34 0 (tupl [(.eq (.pointer (some ⟨g4,0,none⟩)))]))),(16,(.eq (.slice none 0 0))),(86,(.tv (kInt .i64) (r2.length:Int))),(87,(.tv (kInt .i64) (0:Int)))] ⟨R,R,R,R,R,R,R,trivial⟩ ?_
    refine At.loop (fun m rs L=>∃ (x152:(List Int)) (v59:Value) (t78:Int),W.iter2 (Jq.l5 r2 (Jq.c2 r1 r2 x47)) m x152 t78 Q∧rs=[.box g2 76 Jy r1.1,.row v1 82 Ju r2,.box g4 47 kRaw (.map (some g3)),.row v59 3 (kInt .i64) x152,.map g3 (kPair kStr kStr) kBool x47]∧L=mkL [(3,(.eq (.pointer (some ⟨g2,0,none⟩)))),(5,(.eq v1)),(6,(.eq (.pointer (some ⟨g4,0,none⟩)))),(7,(.cls 34 0 (tupl [(.eq (.pointer (some ⟨g4,0,none⟩)))]))),(16,(.eq v59)),(86,(.tv (kInt .i64) (r2.length:Int))),(87,(.tv (kInt .i64) t78))]) ?_ ?_ (m:=n5) ⟨([]:List Int),(.slice none 0 0),(0:Int),hF,R,R⟩
    ·rintro rs L ⟨_,_,_,hF,_,_⟩;exact hF
    ·rintro m6 _ _ ⟨x152,v59,t78,hF,rfl,rfl⟩
     replace hF:=W.iter2_s hF
     unfold Jq.l5 at hF
     refine At.seq (At.region (At.d R R R R (jk (ja R) (ja R) vg) ?_))
     refine At.done (At.vl (At.seq ?_))
     refine At.cond (ja R) (fun hb75=>?_) (fun hb75=>?_)
     ·replace hF:=W.ite_t hb75 hF
      refine At.skip (At.vl (At.seq (At.block (At.seq (At.region (At.d R R R R (jb (x:=(.tv (kInt .i64) t78)) (ja R)) ?_))))))
      refine At.d R R R R (jd (x:=(.tv (kInt .i64) t78)) (ja R)) ?_
      refine At.done (At.vl (At.region (At.d R R R R (jb (x:=(.eq v59)) (ja R)) ?_)))
      refine At.d R R R R (jb (x:=(.tv (kInt .i64) t78)) (ja R)) ?_
      refine At.f R (vc R R R (os:=[.tmp 91]) R sl_89 (xs:=([t78]:List Int)) (jf (ja R) jg) R R) ?_
      rintro _ _ ⟨v60,rfl,rfl⟩
      obtain ⟨hq97,hF⟩:=hF
      refine At.f R (eff_append_row R R R 4 0 R R (ja R) (ja R) sl_89 hq97) ?_
      rintro _ _ ⟨v61,rfl,rfl⟩
      refine At.d R R R R (jd (x:=(.eq v61)) (ja R)) ?_
      refine At.done ?_
      refine At.n ?_
      refine At.vl (At.region (At.d R R R R (jk (ja R) (ji _ _) vf) ?_))
      refine At.d R R R R (jb (x:=(.tv (kInt .i64) (w64 (t78+(1:Int))))) (ja R)) ?_
      refine At.done (At.vl ?_)
      refine At.w [1,2,3,4,5] R [(3,(.eq (.pointer (some ⟨g2,0,none⟩)))),(5,(.eq v1)),(6,(.eq (.pointer (some ⟨g4,0,none⟩)))),(7,(.cls 34 0 (tupl [(.eq (.pointer (some ⟨g4,0,none⟩)))]))),(16,(.eq v61)),(86,(.tv (kInt .i64) (r2.length:Int))),(87,(.tv (kInt .i64) (w64 (t78+(1:Int)))))] ⟨R,R,R,R,R,R,R,trivial⟩ (At.r ⟨(x152++([t78]:List Int)),v61,(w64 (t78+(1:Int))),hF,R,R⟩)
     ·replace hF:=W.ite_f hb75 hF
      refine At.exit ?_
      refine At.x (At.x ?_)
      refine At.h ?_
      refine At.vl ?_
      refine At.w [0,1,2,3,4] R [(3,(.eq (.pointer (some ⟨g2,0,none⟩)))),(5,(.eq v1)),(6,(.eq (.pointer (some ⟨g4,0,none⟩)))),(7,(.cls 34 0 (tupl [(.eq (.pointer (some ⟨g4,0,none⟩)))]))),(16,(.eq v59))] ⟨R,R,R,R,R,trivial⟩ (At.r ⟨x152,v59,hF,R,R⟩)
   ·rintro _ _ ⟨x51,v29,hF,rfl,rfl⟩
    unfold Jq.c2 at hF
    refine At.seq (At.region (At.f R (eff_makeMap R R R (kPair (kInt .i64) (kInt .i64)) (kInt .i64)) ?_))
    rintro _ _ ⟨g12,rfl,rfl⟩
    refine At.d R R R R (jd (x:=(.eq (.map (some g12)))) (ja R)) ?_
    refine At.done (At.vl (At.seq (At.region (At.d R R R R (jc (ja R) 1 R (Sub.self Jy) ty_76) ?_))))
    refine At.d R R R R (jb (x:=(.eq v1)) (ja R)) ?_
    refine At.freeze2 2 5 97 R R R ?_
    replace hF:=W.vq hF
    refine At.f R (jo R R (jq R en_32 (jf (ja R) (jf (ja R) jg))) [] R (Jj.ok hF)) ?_
    rintro _ _ ⟨_,_,⟨r19,v30,hF,rfl,rfl⟩,rfl,rfl⟩
    refine At.d R R R R (jb (x:=(.eq v29)) (ja R)) ?_
    refine At.d R R R R (jb (x:=(.eq (.map (some g12)))) (ja R)) ?_
    refine At.freeze 0 98 R R ?_
    refine At.freeze2 5 16 99 R R R ?_
    replace hF:=W.vq hF
    refine At.f R (jo R R (jq R en_37 (jf (ja R) (jf (ja R) (jf (ja R) jg)))) [1] R (vu.ok hF)) ?_
    rintro _ _ ⟨_,_,⟨r20,hF,rfl,rfl⟩,rfl,rfl⟩
    refine At.done (At.vl ?_)
    refine At.cut (fun rs L=>∃ (x84:(List ((BA×BA)×Bool))),Jq.c3 x84 Q∧rs=[.box g4 47 kRaw (.map (some g3)),.map g3 (kPair kStr kStr) kBool x84]∧L=mkL [(6,(.eq (.pointer (some ⟨g4,0,none⟩))))]) ?_ ?_
    ·refine At.seq (At.region (At.d R R R R (jb (x:=(.eq (.map (some g12)))) (ja R)) ?_))
     refine At.mapfreeze 0 [18,95,100,102] R ⟨R,R,R,R,trivial⟩ ?_
     refine At.f R (eff_range R R R (ja R) Tryz.underlying90 (((0:Int),(0:Int)),(0:Int))) ?_
     rintro _ _ ⟨g39,rfl,rfl⟩
     refine At.done (At.vl (At.block ?_))
     obtain ⟨n4,hF⟩:=hF
     refine At.w [6,0,8] R [(5,(.tv (kSlice Ju) r2)),(6,(.eq (.pointer (some ⟨g4,0,none⟩)))),(7,(.cls 34 0 (tupl [(.eq (.pointer (some ⟨g4,0,none⟩)))]))),(103,(.eq (.pointer (some ⟨g39,0,none⟩))))] ⟨R,R,R,R,trivial⟩ ?_
     refine At.loop (fun m rs L=>∃ (x128:(List ((Int×Int)×Int))) (b21:Bool) (e21:((Int×Int)×Int)) (x129:(List ((BA×BA)×Bool))),W.iter2 (Jq.l2 r2 (Jq.c3)) m x128 x129 Q∧rs=[.box g4 47 kRaw (.map (some g3)),.iter g39 (kPair (kInt .i64) (kInt .i64)) (kInt .i64) x128 b21 e21,.map g3 (kPair kStr kStr) kBool x129]∧L=mkL [(5,(.tv (kSlice Ju) r2)),(6,(.eq (.pointer (some ⟨g4,0,none⟩)))),(7,(.cls 34 0 (tupl [(.eq (.pointer (some ⟨g4,0,none⟩)))]))),(103,(.eq (.pointer (some ⟨g39,0,none⟩))))]) ?_ ?_ (m:=n4) ⟨r20,false,(((0:Int),(0:Int)),(0:Int)),x47,hF,R,R⟩
     ·rintro rs L ⟨_,_,_,_,hF,_,_⟩;exact hF
     ·rintro m3 _ _ ⟨x128,b21,e21,x129,hF,rfl,rfl⟩
      replace hF:=W.iter2_s hF
      unfold Jq.l2 at hF
      refine At.seq (At.region (At.f R (eff_next R R R (ja R) 1 R hF) ?_))
      rintro _ _ ⟨b22,e22,l10,hF,rfl,rfl⟩
      refine At.d R R R R (does_extract_tcons (ja R)) ?_
      refine At.done (At.vl (At.seq ?_))
      refine At.cond (ja R) (fun hb59=>?_) (fun hb59=>?_)
      ·replace hF:=W.ite_t hb59 hF
       refine At.skip (At.vl (At.block (At.seq (At.region ?_))))
       obtain ⟨hq77,hF⟩:=hF
       refine At.d R R R R (does_entry (ja R) 1 R hq77) ?_
       refine At.d R R R R (does_extract20 (ja R)) ?_
       refine At.d R R R R (does_extract21 (ja R)) ?_
       refine At.f R (eff_alloc R R R tz_92) ?_
       rintro _ _ ⟨g58,rfl,rfl⟩
       refine At.f R (jz R R (ja R) 0 R (Sub.self (kPair (kInt .i64) (kInt .i64))) ty_92 (ja R)) ?_
       rintro _ _ ⟨rfl,rfl⟩
       refine At.d R R R R (jd (x:=(.tv (kInt .i64) e22.2)) (ja R)) ?_
       refine At.done (At.vl ?_)
       refine At.cut (fun rs L=>∃ (x130:Jv) (g65:Nat) (x131:Jv) (g66:Nat),Jq.c5 x129 (W.iter2 (Jq.l2 r2 (Jq.c3)) m3) e22 l10 x130 x131 Q∧rs=[.box g4 47 kRaw (.map (some g3)),.box g65 82 Ju x130,.box g66 82 Ju x131,.iter g39 (kPair (kInt .i64) (kInt .i64)) (kInt .i64) l10 b22 e22,.map g3 (kPair kStr kStr) kBool x129]∧L=mkL [(5,(.tv (kSlice Ju) r2)),(6,(.eq (.pointer (some ⟨g4,0,none⟩)))),(7,(.cls 34 0 (tupl [(.eq (.pointer (some ⟨g4,0,none⟩)))]))),(20,(.tv (kInt .i64) e22.2)),(21,(.eq (.pointer (some ⟨g65,0,none⟩)))),(22,(.eq (.pointer (some ⟨g66,0,none⟩)))),(103,(.eq (.pointer (some ⟨g39,0,none⟩))))]) ?_ ?_
       ·refine At.draw mixed [0,1,2,3] R [[],[],[],[]] (fun φ w hgd=>?_)
        obtain ⟨hq93,hF⟩:=hF
        obtain ⟨hq94,hF⟩:=hF
        refine AtH.take [0,1,2,3] hgd 0 R R R R (D':=#[Y,N,N,N,N,N,N,N,N,N,N,N,N,N]) (by kernel_rfl) (fun _ _ _ _ h=>h) R (jb (x:=(.tv (kSlice Ju) r2)) (ja R)) ?_
        refine AtH.take [0,1,2,3] hgd 1 R R R R (D':=#[Y,Y,N,N,N,N,N,N,N,N,N,N,N,N]) (by kernel_rfl) (fun _ _ _ _ h=>h) R (does_aidx_box (ja R) (ji _ _) ia_92_0) ?_
        refine AtH.take [0,1,2,3] hgd 2 R R R R (D':=#[Y,Y,Y,N,N,N,N,N,N,N,N,N,N,N]) (by kernel_rfl) (fun _ _ _ _ h=>h) R (jc (ja R) 0 R sub_a92_0 ty_3) ?_
        refine AtH.take [0,1,2,3] hgd 3 R R R R (D':=#[Y,Y,Y,Y,N,N,N,N,N,N,N,N,N,N]) (by kernel_rfl) (fun _ _ _ _ h=>h) R (vj Vd (ja R) (ja R) Tryz.underlying79 ty_82 hq93) ?_
        refine AtH.take [0,1,2,3] hgd 4 R R R R (D':=#[Y,Y,Y,Y,Y,N,N,N,N,N,N,N,N,N]) (by kernel_rfl) (fun _ _ _ _ h=>h) R (vw (K:=Ju) (ja R) ty_82) ?_
        refine AtH.take [0,1,2,3] hgd 5 R R R R (D':=#[Y,Y,Y,Y,Y,Y,N,N,N,N,N,N,N,N]) (by kernel_rfl) (fun _ _ _ _ h=>h) R (jb (x:=(.tv (kSlice Ju) r2)) (ja R)) ?_
        refine AtH.take [0,1,2,3] hgd 6 R R R R (D':=#[Y,Y,Y,Y,Y,Y,Y,N,N,N,N,N,N,N]) (by kernel_rfl) (fun _ _ _ _ h=>h) R (does_aidx_box (ja R) (ji _ _) ia_92_1) ?_
        refine AtH.take [0,1,2,3] hgd 7 R R R R (D':=#[Y,Y,Y,Y,Y,Y,Y,Y,N,N,N,N,N,N]) (by kernel_rfl) (fun _ _ _ _ h=>h) R (jc (ja R) 0 R sub_a92_1 ty_3) ?_
        refine AtH.take [0,1,2,3] hgd 8 R R R R (D':=#[Y,Y,Y,Y,Y,Y,Y,Y,Y,N,N,N,N,N]) (by kernel_rfl) (fun _ _ _ _ h=>h) R (vj Vd (ja R) (ja R) Tryz.underlying79 ty_82 hq94) ?_
        refine AtH.take [0,1,2,3] hgd 9 R R R R (D':=#[Y,Y,Y,Y,Y,Y,Y,Y,Y,Y,N,N,N,N]) (by kernel_rfl) (fun _ _ _ _ h=>h) R (vw (K:=Ju) (ja R) ty_82) ?_
        refine AtH.all2 10 11 (by kernel_rfl) ?_ ?_
        ·refine AtH.f [(0,0),(1,1),(2,2),(3,3)] R R R R R R (eff_alloc R R R tz_82) (D':=#[Y,Y,Y,Y,Y,Y,Y,Y,Y,Y,Y,N,N,N]) (by kernel_rfl) (by kernel_rfl) ?_
         rintro _ _ ⟨g69,rfl,rfl⟩
         refine ⟨_,.inr ⟨R,flat_eq⟩,?_⟩
         refine AtH.all1 11 (by kernel_rfl) ?_
         refine AtH.f [(0,1),(1,2),(2,3),(3,4)] R R R R R R (eff_alloc R R R tz_82) (D':=#[Y,Y,Y,Y,Y,Y,Y,Y,Y,Y,Y,Y,N,N]) (by kernel_rfl) (by kernel_rfl) ?_
         rintro _ _ ⟨g70,rfl,rfl⟩
         refine ⟨_,.inr ⟨R,flat_eq⟩,?_⟩
         refine AtH.all1 12 (by kernel_rfl) ?_
         refine AtH.eff0 [(0,2),(1,3),(2,4),(3,5)] R R R R R (jz R R (ja R) 1 R (Sub.self Ju) ty_82 (ja R)) (D':=#[Y,Y,Y,Y,Y,Y,Y,Y,Y,Y,Y,Y,Y,N]) (by kernel_rfl) (by kernel_rfl) ?_
         rintro _ _ ⟨rfl,rfl⟩
         refine AtH.all1 13 (by kernel_rfl) ?_
         refine AtH.eff0 [(0,2),(1,3),(2,4),(3,5)] R R R R R (jz R R (ja R) 0 R (Sub.self Ju) ty_82 (ja R)) (D':=#[Y,Y,Y,Y,Y,Y,Y,Y,Y,Y,Y,Y,Y,Y]) (by kernel_rfl) (by kernel_rfl) ?_
         rintro _ _ ⟨rfl,rfl⟩
         refine AtH.done (by kernel_rfl) ?_
         refine At.vl ?_
         refine At.w [3,1,0,4,5] R [(5,(.tv (kSlice Ju) r2)),(6,(.eq (.pointer (some ⟨g4,0,none⟩)))),(7,(.cls 34 0 (tupl [(.eq (.pointer (some ⟨g4,0,none⟩)))]))),(20,(.tv (kInt .i64) e22.2)),(21,(.eq (.pointer (some ⟨g69,0,none⟩)))),(22,(.eq (.pointer (some ⟨g70,0,none⟩)))),(103,(.eq (.pointer (some ⟨g39,0,none⟩))))] ⟨R,R,R,R,R,R,R,trivial⟩ (At.r ⟨(rd Vd r2 e22.1.1),g69,(rd Vd r2 e22.1.2),g70,hF,R,R⟩)
        ·refine AtH.f [(0,0),(1,1),(2,2),(3,3)] R R R R R R (eff_alloc R R R tz_82) (D':=#[Y,Y,Y,Y,Y,Y,Y,Y,Y,Y,N,Y,N,N]) (by kernel_rfl) (by kernel_rfl) ?_
         rintro _ _ ⟨g71,rfl,rfl⟩
         refine ⟨_,.inr ⟨R,flat_eq⟩,?_⟩
         refine AtH.all1 10 (by kernel_rfl) ?_
         refine AtH.f [(0,1),(1,2),(2,3),(3,4)] R R R R R R (eff_alloc R R R tz_82) (D':=#[Y,Y,Y,Y,Y,Y,Y,Y,Y,Y,Y,Y,N,N]) (by kernel_rfl) (by kernel_rfl) ?_
         rintro _ _ ⟨g72,rfl,rfl⟩
         refine ⟨_,.inr ⟨R,flat_eq⟩,?_⟩
         refine AtH.all1 12 (by kernel_rfl) ?_
         refine AtH.eff0 [(0,2),(1,3),(2,4),(3,5)] R R R R R (jz R R (ja R) 0 R (Sub.self Ju) ty_82 (ja R)) (D':=#[Y,Y,Y,Y,Y,Y,Y,Y,Y,Y,Y,Y,Y,N]) (by kernel_rfl) (by kernel_rfl) ?_
         rintro _ _ ⟨rfl,rfl⟩
         refine AtH.all1 13 (by kernel_rfl) ?_
         refine AtH.eff0 [(0,2),(1,3),(2,4),(3,5)] R R R R R (jz R R (ja R) 1 R (Sub.self Ju) ty_82 (ja R)) (D':=#[Y,Y,Y,Y,Y,Y,Y,Y,Y,Y,Y,Y,Y,Y]) (by kernel_rfl) (by kernel_rfl) ?_
         rintro _ _ ⟨rfl,rfl⟩
         refine AtH.done (by kernel_rfl) ?_
         refine At.vl ?_
         refine At.w [3,0,1,4,5] R [(5,(.tv (kSlice Ju) r2)),(6,(.eq (.pointer (some ⟨g4,0,none⟩)))),(7,(.cls 34 0 (tupl [(.eq (.pointer (some ⟨g4,0,none⟩)))]))),(20,(.tv (kInt .i64) e22.2)),(21,(.eq (.pointer (some ⟨g72,0,none⟩)))),(22,(.eq (.pointer (some ⟨g71,0,none⟩)))),(103,(.eq (.pointer (some ⟨g39,0,none⟩))))] ⟨R,R,R,R,R,R,R,trivial⟩ (At.r ⟨(rd Vd r2 e22.1.1),g72,(rd Vd r2 e22.1.2),g71,hF,R,R⟩)
       ·rintro _ _ ⟨x130,g65,x131,g66,hF,rfl,rfl⟩
        unfold Jq.c5 at hF
        refine At.seq ?_
        refine At.freezebox 2 R ?_
        refine At.ptrslot 2 22 R R (Sub.self Ju) ?_
        refine At.draw mixed [0,1,3,4] R [[],[],[],[]] (fun φ w hgd=>?_)
        replace hF:=W.vq hF
        refine AtH.take [0,1,2,3] hgd 0 R R R R (D':=#[Y,N,N,N,N,N,N,N,N,N,N,N,N,N,N]) (by kernel_rfl) (fun _ _ _ _ h=>h) R (Ji (K:=Ju) (ja R) zu wj) ?_
        refine AtH.take [0,1,2,3] hgd 1 R R R R (D':=#[Y,Y,N,N,N,N,N,N,N,N,N,N,N,N,N]) (by kernel_rfl) (fun _ _ _ _ h=>h) R (does_slice_ptr (ja R) Tryz.underlying50 ty_9.size (arrl_cons (arrl_one _ _)) R R) ?_
        refine AtH.take [0,1,2,3] hgd 2 R R R R (D':=#[Y,Y,Y,N,N,N,N,N,N,N,N,N,N,N,N]) (by kernel_rfl) (fun _ _ _ _ h=>h) R (je (ja R) zu) ?_
        refine AtH.take [0,1,2,3] hgd 3 R R R R (D':=#[Y,Y,Y,Y,N,N,N,N,N,N,N,N,N,N,N]) (by kernel_rfl) (fun _ _ _ _ h=>h) R (does_aidx_box (ja R) (ji _ _) jb2) ?_
        refine AtH.take [0,1,2,3] hgd 4 R R R R (D':=#[Y,Y,Y,Y,Y,N,N,N,N,N,N,N,N,N,N]) (by kernel_rfl) (fun _ _ _ _ h=>h) R (jc (ja R) 1 R zh ty_9) ?_
        refine AtH.all1 5 (by kernel_rfl) ?_
        refine AtH.f [(0,0),(1,1),(2,3),(3,4)] R R R R R R (jn R R jp (jq R en_36 (jf (ja R) (jf (ja R) jg))) (Jm.ok hF) (by rintro _ _ ⟨r,_,rfl,_⟩;exact vp)) (D':=#[Y,Y,Y,Y,Y,Y,N,N,N,N,N,N,N,N,N]) (by kernel_rfl) (by kernel_rfl) ?_
        rintro _ _ ⟨_,_,⟨r51,hF,rfl,rfl⟩,rfl,rfl⟩
        refine ⟨_,.inr ⟨R,vp⟩,?_⟩
        replace hF:=W.vq hF
        refine AtH.take [0,1,2,3] hgd 6 R R R R (D':=#[Y,Y,Y,Y,Y,Y,Y,N,N,N,N,N,N,N,N]) (by kernel_rfl) (fun _ _ _ _ h=>h) R (jb (x:=(.tv kBool r51)) (ja R)) ?_
        refine AtH.vo [0,1,2,3] hgd 7 R R R (jx R) R R (D':=#[Y,Y,Y,Y,Y,Y,Y,Y,N,N,N,N,N,N,N]) (by kernel_rfl) (fun _ _ _ _ h=>h) R (fun hg70=>(Ji (K:=Ju) (ja R) zu wj)) ?_
        refine AtH.vo [0,1,2,3] hgd 8 R R R (jx R) R R (D':=#[Y,Y,Y,Y,Y,Y,Y,Y,Y,N,N,N,N,N,N]) (by kernel_rfl) (fun _ _ _ _ h=>h) R (fun hg71=>(does_slice_ptr (jh R hg71) Tryz.underlying50 ty_9.size (arrl_cons (arrl_one _ _)) R R)) ?_
        refine AtH.vo [0,1,2,3] hgd 9 R R R (jx R) R R (D':=#[Y,Y,Y,Y,Y,Y,Y,Y,Y,Y,N,N,N,N,N]) (by kernel_rfl) (fun _ _ _ _ h=>h) R (fun hg72=>(je (ja R) zu)) ?_
        refine AtH.vo [0,1,2,3] hgd 10 R R R (jx R) R R (D':=#[Y,Y,Y,Y,Y,Y,Y,Y,Y,Y,Y,N,N,N,N]) (by kernel_rfl) (fun _ _ _ _ h=>h) R (fun hg73=>(does_aidx_box (jh R hg73) (ji _ _) ia_50_1)) ?_
        refine AtH.vo [0,1,2,3] hgd 11 R R R (jx R) R R (D':=#[Y,Y,Y,Y,Y,Y,Y,Y,Y,Y,Y,Y,N,N,N]) (by kernel_rfl) (fun _ _ _ _ h=>h) R (fun hg74=>(jc (jh R hg74) 1 R ze ty_9)) ?_
        refine AtH.all1 12 (by kernel_rfl) ?_
        refine AtH.effG [(0,0),(1,1),(2,3),(3,4)] R R R R R R R (jx R) (D':=#[Y,Y,Y,Y,Y,Y,Y,Y,Y,Y,Y,Y,Y,N,N]) (by kernel_rfl) (by kernel_rfl) hF (fun r=>.tv kBool r) (fun _=>vp) (fun hg75 hF=>vr (jn R R jp (jq R en_36 (jf (jh R hg75) (jf (jh R hg75) jg))) (Jm.ok hF) (by rintro _ _ ⟨r,_,rfl,_⟩;exact vp)) (by rintro _ _ ⟨_,_,⟨r,hF,rfl,rfl⟩,rfl,rfl⟩;exact ⟨r,hF,R,R⟩)) (fun r52 hF=>?_)
        refine AtH.take [0,1,2,3] hgd 13 R R R R (D':=#[Y,Y,Y,Y,Y,Y,Y,Y,Y,Y,Y,Y,Y,Y,N]) (by kernel_rfl) (fun _ _ _ _ h=>h) R (jm (ja R) (jl _) (ja R) vi) ?_
        refine AtH.take [0,1,2,3] hgd 14 R R R R (D':=#[Y,Y,Y,Y,Y,Y,Y,Y,Y,Y,Y,Y,Y,Y,Y]) (by kernel_rfl) (fun _ _ _ _ h=>h) R (jd (x:=(.tv kBool (r51||r52))) (ja R)) ?_
        refine AtH.done (by kernel_rfl) ?_
        refine At.vl (At.seq (At.seq (At.region (At.d R R R R (je (ja R) zu) ?_))))
        refine At.d R R R R (jc (ja R) 1 R wj ty_50) ?_
        refine At.d R R R R (Ji (K:=Ju) (ja R) zu wj) ?_
        refine At.d R R R R (vw (K:=(kPair kStr kStr)) (ja R) ty_50) ?_
        refine At.d R R R R (jk (ja R) (ja R) (bin_eq eqty_50)) ?_
        refine At.d R R R R (jb (x:=(.tv kBool (eq_a50 x130.nodes x131.nodes))) (ja R)) ?_
        refine At.vn R R R R (jx R) R (fun hg76=>(jb (x:=(.tv (kInt .i64) e22.2)) (ja R))) ?_
        refine At.vn R R R R (jx R) R (fun hg77=>(jk (jh R hg77) (ji _ _) bin_eql)) ?_
        refine At.vn R R R R (jx R) R (fun hg78=>(jb (x:=(.tv kBool (e22.2==(1:Int)))) (jh R hg78))) ?_
        refine At.vn R R R R (ju R) R (fun hg79=>(jb (x:=(.tv kBool (r51||r52))) (ja R))) ?_
        refine At.vn R R R R (jx R) R (fun hg80=>(jm (jh R hg80) (ja R) (jl _) (pick_andG (and_of hg80)))) ?_
        refine At.d R R R R (jm (ja R) (jl _) (ja R) vi) ?_
        refine At.done (At.vl ?_)
        refine At.cond (ja R) (fun hb60=>?_) (fun hb60=>?_)
        ·replace hF:=W.ite_t hb60 hF
         refine At.exit ?_
         refine At.x ?_
         refine At.h ?_
         refine At.vl ?_
         refine At.w [0,3,4] R [(5,(.tv (kSlice Ju) r2)),(6,(.eq (.pointer (some ⟨g4,0,none⟩)))),(7,(.cls 34 0 (tupl [(.eq (.pointer (some ⟨g4,0,none⟩)))]))),(103,(.eq (.pointer (some ⟨g39,0,none⟩))))] ⟨R,R,R,R,trivial⟩ (At.r ⟨l10,b22,e22,x129,hF,R,R⟩)
        ·replace hF:=W.ite_f hb60 hF
         refine At.skip (At.vl (At.seq (At.region (At.d R R R R (je (ja R) fa_82_1) ?_))))
         refine At.d R R R R (jc (ja R) 1 R zq ty_41) ?_
         refine At.d R R R R (jt (ja R) Tryz.underlying41) ?_
         refine At.d R R R R (jb (x:=(.tv (kInt .i64) (0:Int))) (ji _ _)) ?_
         refine At.done (At.vl (At.block ?_))
         obtain ⟨n3,hF⟩:=hF
         refine At.w [0,3,4] R [(5,(.tv (kSlice Ju) r2)),(6,(.eq (.pointer (some ⟨g4,0,none⟩)))),(7,(.cls 34 0 (tupl [(.eq (.pointer (some ⟨g4,0,none⟩)))]))),(22,(.ptr Ju x131)),(103,(.eq (.pointer (some ⟨g39,0,none⟩)))),(146,(.tv (kSlice kStr) x130.owners)),(147,(.tv (kInt .i64) (x130.owners.length:Int))),(148,(.tv (kInt .i64) (0:Int)))] ⟨R,R,R,R,R,R,R,R,trivial⟩ ?_
         refine At.loop (fun m rs L=>∃ (x142:(List ((BA×BA)×Bool))) (t69:Int),W.iter2 (Jq.l3 (W.iter2 (Jq.l2 r2 (Jq.c3)) m3) l10 x130 x131) m x142 t69 Q∧rs=[.box g4 47 kRaw (.map (some g3)),.iter g39 (kPair (kInt .i64) (kInt .i64)) (kInt .i64) l10 b22 e22,.map g3 (kPair kStr kStr) kBool x142]∧L=mkL [(5,(.tv (kSlice Ju) r2)),(6,(.eq (.pointer (some ⟨g4,0,none⟩)))),(7,(.cls 34 0 (tupl [(.eq (.pointer (some ⟨g4,0,none⟩)))]))),(22,(.ptr Ju x131)),(103,(.eq (.pointer (some ⟨g39,0,none⟩)))),(146,(.tv (kSlice kStr) x130.owners)),(147,(.tv (kInt .i64) (x130.owners.length:Int))),(148,(.tv (kInt .i64) t69))]) ?_ ?_ (m:=n3) ⟨x129,(0:Int),hF,R,R⟩
         ·rintro rs L ⟨_,_,hF,_,_⟩;exact hF
         ·rintro m4 _ _ ⟨x142,t69,hF,rfl,rfl⟩
          replace hF:=W.iter2_s hF
          unfold Jq.l3 at hF
          refine At.seq (At.region (At.d R R R R (jk (ja R) (ja R) vg) ?_))
          refine At.done (At.vl (At.seq ?_))
          refine At.cond (ja R) (fun hb67=>?_) (fun hb67=>?_)
          ·replace hF:=W.ite_t hb67 hF
           refine At.skip (At.vl ?_)
           refine At.cut (fun rs L=>∃ (x146:(List ((BA×BA)×Bool))),Jq.c6 t69 (W.iter2 (Jq.l3 (W.iter2 (Jq.l2 r2 (Jq.c3)) m3) l10 x130 x131) m4) x146 Q∧rs=[.box g4 47 kRaw (.map (some g3)),.iter g39 (kPair (kInt .i64) (kInt .i64)) (kInt .i64) l10 b22 e22,.map g3 (kPair kStr kStr) kBool x146]∧L=mkL [(5,(.tv (kSlice Ju) r2)),(6,(.eq (.pointer (some ⟨g4,0,none⟩)))),(7,(.cls 34 0 (tupl [(.eq (.pointer (some ⟨g4,0,none⟩)))]))),(22,(.ptr Ju x131)),(103,(.eq (.pointer (some ⟨g39,0,none⟩)))),(146,(.tv (kSlice kStr) x130.owners)),(147,(.tv (kInt .i64) (x130.owners.length:Int))),(148,(.tv (kInt .i64) t69))]) ?_ ?_
           ·refine At.block (At.seq (At.region ?_))
            obtain ⟨hq89,hF⟩:=hF
            refine At.d R R R R (vj (⟨#[]⟩:BA) (ja R) (ja R) Tryz.underlying41 ty_9 hq89) ?_
            refine At.d R R R R (vw (K:=kStr) (ja R) ty_9) ?_
            refine At.d R R R R (jd (x:=(.tv kStr (rd (⟨#[]⟩:BA) x130.owners t69))) (ja R)) ?_
            refine At.done (At.vl (At.seq (At.region (At.d R R R R (Ji (K:=Ju) (ja R) fa_82_1 zq) ?_))))
            refine At.d R R R R (vw (K:=(kSlice kStr)) (ja R) ty_41) ?_
            refine At.d R R R R (jt (ja R) Tryz.underlying41) ?_
            refine At.d R R R R (jb (x:=(.tv (kInt .i64) (0:Int))) (ji _ _)) ?_
            refine At.done (At.vl (At.block ?_))
            obtain ⟨n2,hF⟩:=hF
            refine At.w [0,1,2] R [(5,(.tv (kSlice Ju) r2)),(6,(.eq (.pointer (some ⟨g4,0,none⟩)))),(7,(.cls 34 0 (tupl [(.eq (.pointer (some ⟨g4,0,none⟩)))]))),(22,(.ptr Ju x131)),(25,(.tv kStr (rd (⟨#[]⟩:BA) x130.owners t69))),(103,(.eq (.pointer (some ⟨g39,0,none⟩)))),(146,(.tv (kSlice kStr) x130.owners)),(147,(.tv (kInt .i64) (x130.owners.length:Int))),(148,(.tv (kInt .i64) t69)),(153,(.tv (kSlice kStr) x131.owners)),(154,(.tv (kInt .i64) (x131.owners.length:Int))),(155,(.tv (kInt .i64) (0:Int)))] ⟨R,R,R,R,R,R,R,R,R,R,R,R,trivial⟩ ?_
            refine At.loop (fun m rs L=>∃ (x149:(List ((BA×BA)×Bool))) (t75:Int),W.iter2 (Jq.l4 x130 x131 t69 (Jq.c6 t69 (W.iter2 (Jq.l3 (W.iter2 (Jq.l2 r2 (Jq.c3)) m3) l10 x130 x131) m4))) m x149 t75 Q∧rs=[.box g4 47 kRaw (.map (some g3)),.iter g39 (kPair (kInt .i64) (kInt .i64)) (kInt .i64) l10 b22 e22,.map g3 (kPair kStr kStr) kBool x149]∧L=mkL [(5,(.tv (kSlice Ju) r2)),(6,(.eq (.pointer (some ⟨g4,0,none⟩)))),(7,(.cls 34 0 (tupl [(.eq (.pointer (some ⟨g4,0,none⟩)))]))),(22,(.ptr Ju x131)),(25,(.tv kStr (rd (⟨#[]⟩:BA) x130.owners t69))),(103,(.eq (.pointer (some ⟨g39,0,none⟩)))),(146,(.tv (kSlice kStr) x130.owners)),(147,(.tv (kInt .i64) (x130.owners.length:Int))),(148,(.tv (kInt .i64) t69)),(153,(.tv (kSlice kStr) x131.owners)),(154,(.tv (kInt .i64) (x131.owners.length:Int))),(155,(.tv (kInt .i64) t75))]) ?_ ?_ (m:=n2) ⟨x142,(0:Int),hF,R,R⟩
            ·rintro rs L ⟨_,_,hF,_,_⟩;exact hF
            ·rintro m5 _ _ ⟨x149,t75,hF,rfl,rfl⟩
             replace hF:=W.iter2_s hF
             unfold Jq.l4 at hF
             refine At.seq (At.region (At.d R R R R (jk (ja R) (ja R) vg) ?_))
             refine At.done (At.vl (At.seq ?_))
             refine At.cond (ja R) (fun hb72=>?_) (fun hb72=>?_)
             ·replace hF:=W.ite_t hb72 hF
              refine At.skip (At.vl (At.seq (At.block (At.seq (At.region ?_)))))
              obtain ⟨hq92,hF⟩:=hF
              refine At.d R R R R (vj (⟨#[]⟩:BA) (ja R) (ja R) Tryz.underlying41 ty_9 hq92) ?_
              refine At.d R R R R (vw (K:=kStr) (ja R) ty_9) ?_
              refine At.d R R R R (jd (x:=(.tv kStr (rd (⟨#[]⟩:BA) x131.owners t75))) (ja R)) ?_
              refine At.done (At.vl (At.region (At.d R R R R (jb (x:=(.cls 34 0 (tupl [(.eq (.pointer (some ⟨g4,0,none⟩)))]))) (ja R)) ?_)))
              refine At.d R R R R (jb (x:=(.tv kStr (rd (⟨#[]⟩:BA) x130.owners t69))) (ja R)) ?_
              refine At.d R R R R (jb (x:=(.tv kStr (rd (⟨#[]⟩:BA) x131.owners t75))) (ja R)) ?_
              replace hF:=W.vq hF
              refine At.f R (jo R R (ent_val0 R (ja R) en_34 (jf (ja R) (jf (ja R) jg))) [0,2] R (wv.ok hF)) ?_
              rintro _ _ ⟨_,_,⟨r61,hF,rfl,rfl⟩,rfl,rfl⟩
              refine At.done ?_
              refine At.n ?_
              refine At.vl (At.region (At.d R R R R (jk (ja R) (ji _ _) vf) ?_))
              refine At.d R R R R (jb (x:=(.tv (kInt .i64) (w64 (t75+(1:Int))))) (ja R)) ?_
              refine At.done (At.vl ?_)
              refine At.w [0,3,1] R [(5,(.tv (kSlice Ju) r2)),(6,(.eq (.pointer (some ⟨g4,0,none⟩)))),(7,(.cls 34 0 (tupl [(.eq (.pointer (some ⟨g4,0,none⟩)))]))),(22,(.ptr Ju x131)),(25,(.tv kStr (rd (⟨#[]⟩:BA) x130.owners t69))),(103,(.eq (.pointer (some ⟨g39,0,none⟩)))),(146,(.tv (kSlice kStr) x130.owners)),(147,(.tv (kInt .i64) (x130.owners.length:Int))),(148,(.tv (kInt .i64) t69)),(153,(.tv (kSlice kStr) x131.owners)),(154,(.tv (kInt .i64) (x131.owners.length:Int))),(155,(.tv (kInt .i64) (w64 (t75+(1:Int)))))] ⟨R,R,R,R,R,R,R,R,R,R,R,R,trivial⟩ (At.r ⟨r61,(w64 (t75+(1:Int))),hF,R,R⟩)
             ·replace hF:=W.ite_f hb72 hF
              refine At.exit ?_
              refine At.x (At.x ?_)
              refine At.h ?_
              refine At.n ?_
              refine At.vl ?_
              refine At.w [0,1,2] R [(5,(.tv (kSlice Ju) r2)),(6,(.eq (.pointer (some ⟨g4,0,none⟩)))),(7,(.cls 34 0 (tupl [(.eq (.pointer (some ⟨g4,0,none⟩)))]))),(22,(.ptr Ju x131)),(103,(.eq (.pointer (some ⟨g39,0,none⟩)))),(146,(.tv (kSlice kStr) x130.owners)),(147,(.tv (kInt .i64) (x130.owners.length:Int))),(148,(.tv (kInt .i64) t69))] ⟨R,R,R,R,R,R,R,R,trivial⟩ (At.r ⟨x149,hF,R,R⟩)
           ·rintro _ _ ⟨x146,hF,rfl,rfl⟩
            unfold Jq.c6 at hF
            refine At.region (At.d R R R R (jk (ja R) (ji _ _) vf) ?_)
            refine At.d R R R R (jb (x:=(.tv (kInt .i64) (w64 (t69+(1:Int))))) (ja R)) ?_
            refine At.done (At.vl ?_)
            refine At.w [0,1,2] R [(5,(.tv (kSlice Ju) r2)),(6,(.eq (.pointer (some ⟨g4,0,none⟩)))),(7,(.cls 34 0 (tupl [(.eq (.pointer (some ⟨g4,0,none⟩)))]))),(22,(.ptr Ju x131)),(103,(.eq (.pointer (some ⟨g39,0,none⟩)))),(146,(.tv (kSlice kStr) x130.owners)),(147,(.tv (kInt .i64) (x130.owners.length:Int))),(148,(.tv (kInt .i64) (w64 (t69+(1:Int)))))] ⟨R,R,R,R,R,R,R,R,trivial⟩ (At.r ⟨x146,(w64 (t69+(1:Int))),hF,R,R⟩)
          ·replace hF:=W.ite_f hb67 hF
           refine At.exit ?_
           refine At.x (At.x ?_)
           refine At.h ?_
           refine At.n ?_
           refine At.vl ?_
           refine At.w [0,1,2] R [(5,(.tv (kSlice Ju) r2)),(6,(.eq (.pointer (some ⟨g4,0,none⟩)))),(7,(.cls 34 0 (tupl [(.eq (.pointer (some ⟨g4,0,none⟩)))]))),(103,(.eq (.pointer (some ⟨g39,0,none⟩))))] ⟨R,R,R,R,trivial⟩ (At.r ⟨l10,b22,e22,x142,hF,R,R⟩)
      ·replace hF:=W.ite_f hb59 hF
       refine At.exit ?_
       refine At.x (At.x ?_)
       refine At.h ?_
       refine At.vl ?_
       refine At.w [0,2] R [(6,(.eq (.pointer (some ⟨g4,0,none⟩))))] ⟨R,trivial⟩ (At.r ⟨x129,hF,R,R⟩)
    ·rintro _ _ ⟨x84,hF,rfl,rfl⟩
     unfold Jq.c3 at hF
     refine At.seq (At.region (At.d R R R R (jd (x:=(.eq (.slice none 0 0))) (opd_eq _)) ?_))
     refine At.done (At.vl ?_)
     refine At.cut (fun rs L=>∃ (x91:(List Violation)) (v40:Value),Jq.c4 x91 Q∧rs=[.row v40 43 kViolation x91]∧L=mkL [(28,(.eq v40))]) ?_ ?_
     ·refine At.seq (At.region (At.d R R R R (does_load_raw (ja R) 0 R (Sub.self kRaw) tyr_47 R) ?_))
      refine At.mapfreeze 1 [165] R ⟨R,trivial⟩ ?_
      refine At.boxtold 0 (K':=(kMp (kPair kStr kStr) kBool)) (y:=x84) R (Turn.fmap (j:=1) R) ?_
      refine At.f R (eff_range R R R (ja R) Tryz.underlying47 (((⟨#[]⟩:BA),(⟨#[]⟩:BA)),false)) ?_
      rintro _ _ ⟨g35,rfl,rfl⟩
      refine At.done (At.vl (At.block ?_))
      refine At.nilrow 43 kViolation ?_
      obtain ⟨n1,hF⟩:=hF
      refine At.w [0,1] R [(28,(.eq (.slice none 0 0))),(166,(.eq (.pointer (some ⟨g35,0,none⟩))))] ⟨R,R,trivial⟩ ?_
      refine At.loop (fun m rs L=>∃ (x96:(List Violation)) (v49:Value) (x97:(List ((BA×BA)×Bool))) (b15:Bool) (e15:((BA×BA)×Bool)),W.iter2 (Jq.l1 (Jq.c4)) m x96 x97 Q∧rs=[.row v49 43 kViolation x96,.iter g35 (kPair kStr kStr) kBool x97 b15 e15]∧L=mkL [(28,(.eq v49)),(166,(.eq (.pointer (some ⟨g35,0,none⟩))))]) ?_ ?_ (m:=n1) ⟨([]:List Violation),(.slice none 0 0),x84,false,(((⟨#[]⟩:BA),(⟨#[]⟩:BA)),false),hF,R,R⟩
      ·rintro rs L ⟨_,_,_,_,_,hF,_,_⟩;exact hF
      ·rintro m2 _ _ ⟨x96,v49,x97,b15,e15,hF,rfl,rfl⟩
       replace hF:=W.iter2_s hF
       unfold Jq.l1 at hF
       refine At.seq (At.region (At.f R (eff_next R R R (ja R) 1 R hF) ?_))
       rintro _ _ ⟨b16,e16,l7,hF,rfl,rfl⟩
       refine At.d R R R R (does_extract_tcons (ja R)) ?_
       refine At.done (At.vl (At.seq ?_))
       refine At.cond (ja R) (fun hb42=>?_) (fun hb42=>?_)
       ·replace hF:=W.ite_t hb42 hF
        refine At.skip (At.vl (At.block (At.seq (At.region ?_))))
        obtain ⟨hq57,hF⟩:=hF
        refine At.d R R R R (does_entry (ja R) 1 R hq57) ?_
        refine At.d R R R R (does_extract20 (ja R)) ?_
        refine At.f R (eff_alloc R R R tz_50) ?_
        rintro _ _ ⟨g38,rfl,rfl⟩
        refine At.f R (jz R R (ja R) 0 R (Sub.self (kPair kStr kStr)) ty_50 (ja R)) ?_
        rintro _ _ ⟨rfl,rfl⟩
        refine At.done (At.vl ?_)
        refine At.boxrow 0 R (arrl_cons (arrl_one _ _)) R R ?_
        refine At.region (At.d R R R R (jb (x:=(.eq v49)) (ja R)) ?_)
        refine At.d R R R R (does_slice_arr (ja R) Tryz.underlying50 ty_9.size) ?_
        replace hF:=W.vq hF
        refine At.f R (jo R R (jq R en_38 (jf (ja R) jg)) [0] R (vt.ok hF)) ?_
        rintro _ _ ⟨_,_,⟨r38,v50,hF,rfl,rfl⟩,rfl,rfl⟩
        refine At.freeze 0 173 R R ?_
        refine At.d R R R R (vd (jr (ji _ _) (jr (ja R) js)) zr_43 bd_43 R (fills_cons R sub_Violation_1 (fills_cons R ja0 fills_nil))) ?_
        refine At.f R (vc R R R (os:=[.tmp 174]) R sl_33 (xs:=([(⟨(⟨#[]⟩:BA),(2:Int),r38⟩:Violation)]:List Violation)) (jf (ja R) jg) R R) ?_
        rintro _ _ ⟨v51,rfl,rfl⟩
        obtain ⟨hq58,hF⟩:=hF
        refine At.f R (eff_append_row R R R 3 0 R R (ja R) (ja R) sl_33 hq58) ?_
        rintro _ _ ⟨v52,rfl,rfl⟩
        refine At.d R R R R (jd (x:=(.eq v52)) (ja R)) ?_
        refine At.done ?_
        refine At.n ?_
        refine At.vl ?_
        refine At.w [3,4] R [(28,(.eq v52)),(166,(.eq (.pointer (some ⟨g35,0,none⟩))))] ⟨R,R,trivial⟩ (At.r ⟨(x96++([(⟨(⟨#[]⟩:BA),(2:Int),r38⟩:Violation)]:List Violation)),v52,l7,b16,e16,hF,R,R⟩)
       ·replace hF:=W.ite_f hb42 hF
        refine At.exit ?_
        refine At.x (At.x ?_)
        refine At.h ?_
        refine At.vl ?_
        refine At.w [0] R [(28,(.eq v49))] ⟨R,trivial⟩ (At.r ⟨x96,v49,hF,R,R⟩)
     ·rintro _ _ ⟨x91,v40,hF,rfl,rfl⟩
      unfold Jq.c4 at hF
      refine At.seq (At.region (At.d R R R R (jb (x:=(.eq v40)) (ja R)) ?_))
      replace hF:=W.vq hF
      refine At.f R (jo R R (jq R en_39 (jf (ja R) (jf (opd_fn 40) jg))) [0] R (Vo.ok hF)) ?_
      rintro _ _ ⟨_,_,⟨r35,hF,rfl,rfl⟩,rfl,rfl⟩
      refine At.done (At.vl (At.seq (At.region (At.d R R R R (jb (x:=(.eq v40)) (ja R)) ?_))))
      refine At.d R R R R (jd (x:=(.eq v40)) (ja R)) ?_
      refine At.done (At.vl (At.ret ?_))
      exact At.j rfl (rv_tmp rfl) [0] rfl ⟨r35,_,hF,rfl,rfl⟩
def qt.c1 (t3:Bool):W Bool:=W.ite t3 (W.ret true) (W.ret false)
def qt.F (t1:Segment) (t2:Segment):W Bool:=W.bind (wq.F t1 t2) (fun r1=>W.ite (r1==(2:Int)) ((qt.c1) (r1==(2:Int))) (W.ite (r1==(3:Int)) ((qt.c1) (r1==(3:Int))) ((qt.c1) (r1==(5:Int)))))
theorem qt.ok {t1:Segment} {t2:Segment} {Q:Bool→Prop} (hF:qt.F t1 t2 Q):Con Tryz.prog 46 [.tv kSegment t1,.ptr kSegment t2] [] (fun ta rs'=>∃ (r:Bool),Q r∧ta=.tv kBool r∧rs'=[]):=by
 refine Con.i Tryz.func46 Tryz.ntmps46 R R (fun C=>?_)
 unfold qt.F at hF
 refine At.seq (At.region (At.f R (jy R R R (ja R)) ?_))
 rintro _ _ ⟨g1,rfl,rfl⟩
 refine At.d R R R R (jd (x:=(.tv kBool false)) (jl _)) ?_
 refine At.done (At.vl (At.seq (At.seq (At.region (At.d R R R R (jc (ja R) 0 R (Sub.self kSegment) ty_39) ?_)))))
 refine At.d R R R R (vw (K:=kSegment) (ja R) ty_39) ?_
 replace hF:=W.vq hF
 refine At.f R (jn R R jp (jq R en_23 (jf (ja R) (jf (ja R) jg))) (wq.ok hF) (by rintro _ _ ⟨r,_,rfl,_⟩;exact flat_int)) ?_
 rintro _ _ ⟨_,_,⟨r1,hF,rfl,rfl⟩,rfl,rfl⟩
 refine At.done (At.vl (At.block ?_))
 refine At.cut (fun rs L=>∃ (t3:Bool),qt.c1 t3 Q∧rs=[]∧L=mkL [(7,(.tv kBool t3))]) ?_ ?_
 ·refine At.seq (At.region (At.d R R R R (jk (ja R) (ji _ _) bin_eql) ?_))
  refine At.d R R R R (jd (x:=(.tv kBool (r1==(2:Int)))) (ja R)) ?_
  refine At.done (At.vl ?_)
  refine At.cond (ja R) (fun hb4=>?_) (fun hb4=>?_)
  ·replace hF:=W.ite_t hb4 hF
   refine At.skip (At.vl ?_)
   refine At.w [] R [(7,(.tv kBool (r1==(2:Int))))] ⟨R,trivial⟩ (At.r ⟨(r1==(2:Int)),hF,R,R⟩)
  ·replace hF:=W.ite_f hb4 hF
   refine At.seq (At.region (At.d R R R R (jk (ja R) (ji _ _) bin_eql) ?_))
   refine At.d R R R R (jd (x:=(.tv kBool (r1==(3:Int)))) (ja R)) ?_
   refine At.done (At.vl ?_)
   refine At.cond (ja R) (fun hb5=>?_) (fun hb5=>?_)
   ·replace hF:=W.ite_t hb5 hF
    refine At.skip (At.vl ?_)
    refine At.w [] R [(7,(.tv kBool (r1==(3:Int))))] ⟨R,trivial⟩ (At.r ⟨(r1==(3:Int)),hF,R,R⟩)
   ·replace hF:=W.ite_f hb5 hF
    refine At.region (At.d R R R R (jk (ja R) (ji _ _) bin_eql) ?_)
    refine At.d R R R R (jd (x:=(.tv kBool (r1==(5:Int)))) (ja R)) ?_
    refine At.done (At.vl ?_)
    refine At.w [] R [(7,(.tv kBool (r1==(5:Int))))] ⟨R,trivial⟩ (At.r ⟨(r1==(5:Int)),hF,R,R⟩)
 ·rintro _ _ ⟨t3,hF,rfl,rfl⟩
  unfold qt.c1 at hF
  refine At.cond (ja R) (fun hb3=>?_) (fun hb3=>?_)
  ·replace hF:=W.ite_t hb3 hF
   refine At.seq (At.region (At.d R R R R (jd (x:=(.tv kBool true)) (jl _)) ?_))
   refine At.done (At.vl (At.ret ?_))
   refine At.q ?_
   refine At.vm ?_
   exact At.j rfl (rv_tmp rfl) [] rfl ⟨true,hF,rfl,rfl⟩
  ·replace hF:=W.ite_f hb3 hF
   refine At.skip ?_
   refine At.n ?_
   refine At.vl (At.seq (At.region (At.d R R R R (jd (x:=(.tv kBool false)) (jl _)) ?_)))
   refine At.done (At.vl (At.ret ?_))
   exact At.j rfl (rv_tmp rfl) [] rfl ⟨false,hF,rfl,rfl⟩
def vz.c1:W Int:=W.ret (-1:Int)
def vz.l1 (s1:(List Segment)) (c1:Segment) (K1:W Int) (A1:Int→W Int) (t6:Int):W Int:=W.ite (decide (t6<(s1.length:Int))) (W.req (0≤t6∧t6<(s1.length:Int)) (W.bind (qt.F (rd zSegment s1 t6) c1) (fun r5=>W.ite r5 (W.ret t6) (A1 (w64 (t6+(1:Int))))))) (K1)
def vz.F (s1:(List Segment)) (c1:Segment):W Int:=W.ex fun n=>W.iter1 (vz.l1 s1 c1 (vz.c1)) n (0:Int)
theorem vz.ok {s1:(List Segment)} {c1:Segment} {Q:Int→Prop} (hF:vz.F s1 c1 Q):Con Tryz.prog 74 [.tv (kSlice kSegment) s1,.cls 46 0 (tupl [.ptr kSegment c1])] [] (fun ta rs'=>∃ (r:Int),Q r∧ta=.tv (kInt .i64) r∧rs'=[]):=by
 refine Con.i Tryz.func74 Tryz.ntmps74 R R (fun C=>?_)
 unfold vz.F at hF
 refine At.seq (At.region (At.d R R R R (jd (x:=(.tv (kInt .i64) (0:Int))) (ji _ _)) ?_))
 refine At.done (At.vl ?_)
 refine At.cut (fun rs L=>∃ _:Unit,vz.c1 Q∧rs=[]∧L=mkL []) ?_ ?_
 ·refine At.seq (At.region (At.d R R R R (jb (x:=(.tv (kSlice kSegment) s1)) (ja R)) ?_))
  refine At.d R R R R (jt (ja R) Tryz.underlying27) ?_
  refine At.d R R R R (jb (x:=(.tv (kInt .i64) (0:Int))) (ji _ _)) ?_
  refine At.done (At.vl (At.block ?_))
  obtain ⟨n1,hF⟩:=hF
  refine At.w [] R [(0,(.tv (kSlice kSegment) s1)),(1,(.cls 46 0 (tupl [(.ptr kSegment c1)]))),(7,(.tv (kInt .i64) (s1.length:Int))),(8,(.tv (kInt .i64) (0:Int)))] ⟨R,R,R,R,trivial⟩ ?_
  refine At.loop (fun m rs L=>∃ (t6:Int),W.iter1 (vz.l1 s1 c1 (vz.c1)) m t6 Q∧rs=[]∧L=mkL [(0,(.tv (kSlice kSegment) s1)),(1,(.cls 46 0 (tupl [(.ptr kSegment c1)]))),(7,(.tv (kInt .i64) (s1.length:Int))),(8,(.tv (kInt .i64) t6))]) ?_ ?_ (m:=n1) ⟨(0:Int),hF,R,R⟩
  ·rintro rs L ⟨_,hF,_,_⟩;exact hF
  ·rintro m1 _ _ ⟨t6,hF,rfl,rfl⟩
   replace hF:=W.iter1_s hF
   unfold vz.l1 at hF
   refine At.seq (At.region (At.d R R R R (jk (ja R) (ja R) vg) ?_))
   refine At.done (At.vl (At.seq ?_))
   refine At.cond (ja R) (fun hb9=>?_) (fun hb9=>?_)
   ·replace hF:=W.ite_t hb9 hF
    refine At.skip (At.vl (At.seq (At.block (At.seq (At.region (At.d R R R R (jb (x:=(.tv (kInt .i64) t6)) (ja R)) ?_))))))
    refine At.d R R R R (jd (x:=(.tv (kInt .i64) t6)) (ja R)) ?_
    refine At.done (At.vl (At.seq (At.region (At.d R R R R (jb (x:=(.cls 46 0 (tupl [(.ptr kSegment c1)]))) (ja R)) ?_))))
    refine At.d R R R R (jb (x:=(.tv (kSlice kSegment) s1)) (ja R)) ?_
    refine At.d R R R R (jb (x:=(.tv (kInt .i64) t6)) (ja R)) ?_
    obtain ⟨hq5,hF⟩:=hF
    refine At.d R R R R (vj zSegment (ja R) (ja R) Tryz.underlying27 ty_39 hq5) ?_
    refine At.d R R R R (vw (K:=kSegment) (ja R) ty_39) ?_
    replace hF:=W.vq hF
    refine At.f R (jn R R jp (ent_val0 R (ja R) en_46 (jf (ja R) jg)) (qt.ok hF) (by rintro _ _ ⟨r,_,rfl,_⟩;exact vp)) ?_
    rintro _ _ ⟨_,_,⟨r5,hF,rfl,rfl⟩,rfl,rfl⟩
    refine At.done (At.vl ?_)
    refine At.cond (ja R) (fun hb10=>?_) (fun hb10=>?_)
    ·replace hF:=W.ite_t hb10 hF
     refine At.seq (At.region (At.d R R R R (jb (x:=(.tv (kInt .i64) t6)) (ja R)) ?_))
     refine At.d R R R R (jd (x:=(.tv (kInt .i64) t6)) (ja R)) ?_
     refine At.done (At.vl (At.ret ?_))
     refine At.q ?_
     refine At.vm (At.vm ?_)
     refine At.q ?_
     refine At.vm ?_
     exact At.j rfl (rv_tmp rfl) [] rfl ⟨t6,hF,rfl,rfl⟩
    ·replace hF:=W.ite_f hb10 hF
     refine At.skip ?_
     refine At.n ?_
     refine At.vl (At.region (At.d R R R R (jk (ja R) (ji _ _) vf) ?_))
     refine At.d R R R R (jb (x:=(.tv (kInt .i64) (w64 (t6+(1:Int))))) (ja R)) ?_
     refine At.done (At.vl ?_)
     refine At.w [] R [(0,(.tv (kSlice kSegment) s1)),(1,(.cls 46 0 (tupl [(.ptr kSegment c1)]))),(7,(.tv (kInt .i64) (s1.length:Int))),(8,(.tv (kInt .i64) (w64 (t6+(1:Int)))))] ⟨R,R,R,R,trivial⟩ (At.r ⟨(w64 (t6+(1:Int))),hF,R,R⟩)
   ·replace hF:=W.ite_f hb9 hF
    refine At.exit ?_
    refine At.x (At.x ?_)
    refine At.h ?_
    refine At.vl ?_
    refine At.w [] R [] trivial (At.r ⟨(),hF,R,R⟩)
 ·rintro _ _ ⟨_,hF,rfl,rfl⟩
  unfold vz.c1 at hF
  refine At.seq (At.region (At.d R R R R (jd (x:=(.tv (kInt .i64) (-1:Int))) (ji _ _)) ?_))
  refine At.done (At.vl (At.ret ?_))
  exact At.j rfl (rv_tmp rfl) [] rfl ⟨(-1:Int),hF,rfl,rfl⟩
def Jo.F (s1:(List Segment)) (c1:Segment):W Bool:=W.bind (vz.F s1 c1) (fun r1=>W.ret (decide ((0:Int)≤r1)))
theorem Jo.ok {s1:(List Segment)} {c1:Segment} {Q:Bool→Prop} (hF:Jo.F s1 c1 Q):Con Tryz.prog 45 [.tv (kSlice kSegment) s1,.cls 46 0 (tupl [.ptr kSegment c1])] [] (fun ta rs'=>∃ (r:Bool),Q r∧ta=.tv kBool r∧rs'=[]):=by
 refine Con.i Tryz.func45 Tryz.ntmps45 R R (fun C=>?_)
 unfold Jo.F at hF
 refine At.seq (At.region (At.d R R R R (jd (x:=(.tv kBool false)) (jl _)) ?_))
 refine At.done (At.vl (At.seq (At.region (At.d R R R R (jb (x:=(.tv (kSlice kSegment) s1)) (ja R)) ?_))))
 refine At.d R R R R (jb (x:=(.cls 46 0 (tupl [(.ptr kSegment c1)]))) (ja R)) ?_
 replace hF:=W.vq hF
 refine At.f R (jn R R jp (jq R en_74 (jf (ja R) (jf (ja R) jg))) (vz.ok hF) (by rintro _ _ ⟨r,_,rfl,_⟩;exact flat_int)) ?_
 rintro _ _ ⟨_,_,⟨r1,hF,rfl,rfl⟩,rfl,rfl⟩
 refine At.d R R R R (jk (ja R) (ji _ _) bin_geq) ?_
 refine At.d R R R R (jd (x:=(.tv kBool (decide ((0:Int)≤r1)))) (ja R)) ?_
 refine At.done (At.vl (At.ret ?_))
 exact At.j rfl (rv_tmp rfl) [] rfl ⟨(decide ((0:Int)≤r1)),hF,rfl,rfl⟩
def wt.F (m1:Map) (s1:Segment):W Bool:=W.bind (wg.F m1) (fun r1=>W.ite (((!r1.2)||(decide ((iMin [s1.A.X,s1.A.Y,s1.B.X,s1.B.Y])<(-2097152:Int))))||(decide ((2097152:Int)<(iMax [s1.A.X,s1.A.Y,s1.B.X,s1.B.Y])))) (W.ret false) (W.bind (Jd.F r1.1) (fun r2=>W.bind (Jj.F r1.1 r2) (fun r3=>W.bind (Jo.F r3 s1) (fun r4=>W.ret (!r4))))))
theorem wt.ok {m1:Map} {s1:Segment} {Q:Bool→Prop} (hF:wt.F m1 s1 Q):Con Tryz.prog 18 [.tv kMap m1,.tv kSegment s1] [] (fun ta rs'=>∃ (r:Bool),Q r∧ta=.tv kBool r∧rs'=[]):=by
 refine Con.i Tryz.func18 Tryz.ntmps18 R R (fun C=>?_)
 unfold wt.F at hF
 refine At.seq (At.region (At.f R (jy R R R (ja R)) ?_))
 rintro _ _ ⟨g1,rfl,rfl⟩
 refine At.f R (jy R R R (ja R)) ?_
 rintro _ _ ⟨g2,rfl,rfl⟩
 refine At.d R R R R (jd (x:=(.tv kBool false)) (jl _)) ?_
 refine At.done (At.vl (At.seq (At.region (At.d R R R R (jc (ja R) 1 R (Sub.self kMap) ty_24) ?_))))
 replace hF:=W.vq hF
 refine At.f R (jo R R (jq R en_30 (jf (ja R) jg)) [] R (wg.ok hF)) ?_
 rintro _ _ ⟨_,_,⟨r1,hF,rfl,rfl⟩,rfl,rfl⟩
 refine At.d R R R R (jb (x:=(.tup2 (.tv Jy r1.1) (.tv kBool r1.2))) (ja R)) ?_
 refine At.d R R R R (does_extract20 (ja R)) ?_
 refine At.d R R R R (does_extract21 (ja R)) ?_
 refine At.f R (eff_alloc R R R tz_76) ?_
 rintro _ _ ⟨g3,rfl,rfl⟩
 refine At.f R (jz R R (ja R) 0 R (Sub.self Jy) ty_76 (ja R)) ?_
 rintro _ _ ⟨rfl,rfl⟩
 refine At.d R R R R (jd (x:=(.tv kBool r1.2)) (ja R)) ?_
 refine At.done (At.vl (At.seq (At.seq (At.region (At.d R R R R (jb (x:=(.tv kBool r1.2)) (ja R)) ?_)))))
 refine At.d R R R R (ve (ja R)) ?_
 refine At.d R R R R (jb (x:=(.tv kBool (!r1.2))) (ja R)) ?_
 refine At.vn R R R R (jx R) R (fun hg1=>(je (ja R) qe)) ?_
 refine At.vn R R R R (jx R) R (fun hg2=>(je (jh R hg2) wa)) ?_
 refine At.vn R R R R (jx R) R (fun hg3=>(jc (jh R hg3) 1 R ym ty_3)) ?_
 refine At.vn R R R R (jx R) R (fun hg4=>(je (ja R) qe)) ?_
 refine At.vn R R R R (jx R) R (fun hg5=>(je (jh R hg5) zf)) ?_
 refine At.vn R R R R (jx R) R (fun hg6=>(jc (jh R hg6) 1 R sub_Segment_0_1 ty_3)) ?_
 refine At.vn R R R R (jx R) R (fun hg7=>(je (ja R) ql)) ?_
 refine At.vn R R R R (jx R) R (fun hg8=>(je (jh R hg8) wa)) ?_
 refine At.vn R R R R (jx R) R (fun hg9=>(jc (jh R hg9) 1 R yl ty_3)) ?_
 refine At.vn R R R R (jx R) R (fun hg10=>(je (ja R) ql)) ?_
 refine At.vn R R R R (jx R) R (fun hg11=>(je (jh R hg11) zf)) ?_
 refine At.vn R R R R (jx R) R (fun hg12=>(jc (jh R hg12) 1 R sub_Segment_1_1 ty_3)) ?_
 refine At.vn R R R R (jx R) R (fun hg13=>(does_mins (n:=s1.A.X) (ns:=[s1.A.Y,s1.B.X,s1.B.Y]) (jf (jh R hg13) (jf (jh R hg13) (jf (jh R hg13) (jf (jh R hg13) jg)))))) ?_
 refine At.vn R R R R (jx R) R (fun hg14=>(jk (jh R hg14) (ji _ _) vg)) ?_
 refine At.d R R R R (jm (ja R) (jl _) (ja R) vi) ?_
 refine At.d R R R R (jb (x:=(.tv kBool ((!r1.2)||(decide ((iMin [s1.A.X,s1.A.Y,s1.B.X,s1.B.Y])<(-2097152:Int)))))) (ja R)) ?_
 refine At.vn R R R R (jx R) R (fun hg15=>(je (ja R) qe)) ?_
 refine At.vn R R R R (jx R) R (fun hg16=>(je (jh R hg16) wa)) ?_
 refine At.vn R R R R (jx R) R (fun hg17=>(jc (jh R hg17) 1 R ym ty_3)) ?_
 refine At.vn R R R R (jx R) R (fun hg18=>(je (ja R) qe)) ?_
 refine At.vn R R R R (jx R) R (fun hg19=>(je (jh R hg19) zf)) ?_
 refine At.vn R R R R (jx R) R (fun hg20=>(jc (jh R hg20) 1 R sub_Segment_0_1 ty_3)) ?_
 refine At.vn R R R R (jx R) R (fun hg21=>(je (ja R) ql)) ?_
 refine At.vn R R R R (jx R) R (fun hg22=>(je (jh R hg22) wa)) ?_
 refine At.vn R R R R (jx R) R (fun hg23=>(jc (jh R hg23) 1 R yl ty_3)) ?_
 refine At.vn R R R R (jx R) R (fun hg24=>(je (ja R) ql)) ?_
 refine At.vn R R R R (jx R) R (fun hg25=>(je (jh R hg25) zf)) ?_
 refine At.vn R R R R (jx R) R (fun hg26=>(jc (jh R hg26) 1 R sub_Segment_1_1 ty_3)) ?_
 refine At.vn R R R R (jx R) R (fun hg27=>(does_maxs (n:=s1.A.X) (ns:=[s1.A.Y,s1.B.X,s1.B.Y]) (jf (jh R hg27) (jf (jh R hg27) (jf (jh R hg27) (jf (jh R hg27) jg)))))) ?_
 refine At.vn R R R R (jx R) R (fun hg28=>(jk (jh R hg28) (ji _ _) bin_gtr)) ?_
 refine At.d R R R R (jm (ja R) (jl _) (ja R) vi) ?_
 refine At.done (At.vl ?_)
 refine At.cond (ja R) (fun hb1=>?_) (fun hb1=>?_)
 ·replace hF:=W.ite_t hb1 hF
  refine At.seq (At.region (At.d R R R R (jd (x:=(.tv kBool false)) (jl _)) ?_))
  refine At.done (At.vl (At.ret (At.vm ?_)))
  exact At.j rfl (rv_tmp rfl) [] rfl ⟨false,hF,rfl,rfl⟩
 ·replace hF:=W.ite_f hb1 hF
  refine At.skip (At.vl (At.seq ?_))
  refine At.draw mixed [0,1,2] R [[],[],[]] (fun φ w hgd=>?_)
  replace hF:=W.vq hF
  refine AtH.take [0,1,2] hgd 0 R R R R (D':=#[Y,N,N,N,N,N,N,N]) (by kernel_rfl) (fun _ _ _ _ h=>h) R (jc (ja R) 0 R (Sub.self Jy) ty_76) ?_
  refine AtH.take [0,1,2] hgd 1 R R R R (D':=#[Y,Y,N,N,N,N,N,N]) (by kernel_rfl) (fun _ _ _ _ h=>h) R (jc (ja R) 0 R (Sub.self Jy) ty_76) ?_
  refine AtH.take [0,1,2] hgd 4 R R R R (D':=#[Y,Y,N,N,Y,N,N,N]) (by kernel_rfl) (fun _ _ _ _ h=>h) R (does_cls (firsts:=[]) (caps:=[.tmp 3]) R (jf (ja R) jg)) ?_
  refine AtH.all1 2 (by kernel_rfl) ?_
  refine AtH.f [(0,0),(1,1),(2,2)] R R R R R R (jo R R (jq R en_31 (jf (ja R) jg)) [] R (Jd.ok hF)) (D':=#[Y,Y,Y,N,Y,N,N,N]) (by kernel_rfl) (by kernel_rfl) ?_
  rintro _ _ ⟨_,_,⟨r2,v3,hF,rfl,rfl⟩,rfl,rfl⟩
  refine ⟨.any,.inl R,?_⟩
  replace hF:=W.vq hF
  refine AtH.all1 3 (by kernel_rfl) ?_
  refine AtH.freeze 0 48 R R ?_
  refine AtH.f [(0,1),(1,2),(2,3)] R R R R R R (jo R R (jq R en_32 (jf (ja R) (jf (ja R) jg))) [] R (Jj.ok hF)) (D':=#[Y,Y,Y,Y,Y,N,N,N]) (by kernel_rfl) (by kernel_rfl) ?_
  rintro _ _ ⟨_,_,⟨r3,v4,hF,rfl,rfl⟩,rfl,rfl⟩
  refine ⟨.any,.inl R,?_⟩
  replace hF:=W.vq hF
  refine AtH.all1 5 (by kernel_rfl) ?_
  refine AtH.f [(0,2),(1,3),(2,4)] R R R R R R (jn R R (lends_row 0 49 R R (lends_box 3 50 R R (lend1_cls (lend1_here lend1_ptr)) jp)) (jq R en_45 (jf (ja R) (jf (ja R) jg))) (Jo.ok hF) (by rintro _ _ ⟨r,_,rfl,_⟩;exact vp)) (D':=#[Y,Y,Y,Y,Y,Y,N,N]) (by kernel_rfl) (by kernel_rfl) ?_
  rintro _ _ ⟨_,_,⟨r4,hF,rfl,rfl⟩,rfl,rfl⟩
  refine ⟨_,.inr ⟨R,vp⟩,?_⟩
  refine AtH.take [0,1,2] hgd 6 R R R R (D':=#[Y,Y,Y,Y,Y,Y,Y,N]) (by kernel_rfl) (fun _ _ _ _ h=>h) R (ve (ja R)) ?_
  refine AtH.take [0,1,2] hgd 7 R R R R (D':=#[Y,Y,Y,Y,Y,Y,Y,Y]) (by kernel_rfl) (fun _ _ _ _ h=>h) R (jd (x:=(.tv kBool (!r4))) (ja R)) ?_
  refine AtH.done (by kernel_rfl) ?_
  refine At.vl (At.ret ?_)
  exact At.j rfl (rv_tmp rfl) [] rfl ⟨(!r4),hF,rfl,rfl⟩
def qf.c1 (r1:(Va×Bool)) (r2:(List Jv)) (x4:(List (List BA))):W ((List Segment)×(List (List BA))):=W.bind (Jj.F r1.1 r2) (fun r3=>W.ret (r3,x4))
def qf.l1 (r2:(List Jv)) (K1:(List (List BA))→W ((List Segment)×(List (List BA)))) (A1:(List (List BA))→Int→W ((List Segment)×(List (List BA)))) (x7:(List (List BA))) (t6:Int):W ((List Segment)×(List (List BA))):=W.ite (decide (t6<(r2.length:Int))) (W.req (0≤t6∧t6<(r2.length:Int)) (W.req (0≤t6∧t6<(r2.length:Int)) (W.req ((x7.length+([(rd Vd r2 t6).owners]:List (List BA)).length)*24≤140737488355328∧x7.length+([(rd Vd r2 t6).owners]:List (List BA)).length≤140737488355328) (A1 (x7++([(rd Vd r2 t6).owners]:List (List BA))) (w64 (t6+(1:Int))))))) (K1 x7)
def qf.F (m1:Map):W ((List Segment)×(List (List BA))):=W.bind (wg.F m1) (fun r1=>W.ite (!r1.2) (W.ret (([]:List Segment),([]:List (List BA)))) (W.bind (Jd.F r1.1) (fun r2=>W.ex fun n=>W.iter2 (qf.l1 r2 (qf.c1 r1 r2)) n ([]:List (List BA)) (0:Int))))
theorem qf.ok {m1:Map} {Q:((List Segment)×(List (List BA)))→Prop} (hF:qf.F m1 Q):Con Tryz.prog 12 [.tv kMap m1] [] (fun ta rs'=>∃ (r:((List Segment)×(List (List BA)))) (u0:Value) (u1:Value),Q r∧ta=.tup2 (.eq u0) (.eq u1)∧rs'=[.row u0 39 kSegment r.1,.row u1 41 (kSlice kStr) r.2]):=by
 refine Con.i Tryz.func12 Tryz.ntmps12 R R (fun C=>?_)
 unfold qf.F at hF
 refine At.seq (At.region (At.f R (jy R R R (ja R)) ?_))
 rintro _ _ ⟨g1,rfl,rfl⟩
 refine At.d R R R R (jd (x:=(.eq (.slice none 0 0))) (opd_eq _)) ?_
 refine At.d R R R R (jd (x:=(.eq (.slice none 0 0))) (opd_eq _)) ?_
 refine At.done (At.vl (At.seq (At.region (At.d R R R R (jc (ja R) 0 R (Sub.self kMap) ty_24) ?_))))
 replace hF:=W.vq hF
 refine At.f R (jo R R (jq R en_30 (jf (ja R) jg)) [] R (wg.ok hF)) ?_
 rintro _ _ ⟨_,_,⟨r1,hF,rfl,rfl⟩,rfl,rfl⟩
 refine At.d R R R R (jb (x:=(.tup2 (.tv Jy r1.1) (.tv kBool r1.2))) (ja R)) ?_
 refine At.d R R R R (does_extract20 (ja R)) ?_
 refine At.d R R R R (does_extract21 (ja R)) ?_
 refine At.f R (eff_alloc R R R tz_76) ?_
 rintro _ _ ⟨g2,rfl,rfl⟩
 refine At.f R (jz R R (ja R) 0 R (Sub.self Jy) ty_76 (ja R)) ?_
 rintro _ _ ⟨rfl,rfl⟩
 refine At.d R R R R (jd (x:=(.tv kBool r1.2)) (ja R)) ?_
 refine At.done (At.vl (At.seq (At.seq (At.region (At.d R R R R (jb (x:=(.tv kBool r1.2)) (ja R)) ?_)))))
 refine At.d R R R R (ve (ja R)) ?_
 refine At.done (At.vl ?_)
 refine At.cond (ja R) (fun hb1=>?_) (fun hb1=>?_)
 ·replace hF:=W.ite_t hb1 hF
  refine At.seq (At.region (At.d R R R R (jd (x:=(.eq (.slice none 0 0))) (opd_eq _)) ?_))
  refine At.d R R R R (jd (x:=(.eq (.slice none 0 0))) (opd_eq _)) ?_
  refine At.done (At.vl (At.ret (At.vm ?_)))
  refine At.nilrow 39 kSegment ?_
  refine At.nilrow 41 (kSlice kStr) ?_
  exact At.ret_2 rfl (rv_tmp rfl) (rv_tmp rfl) [1,0] rfl ⟨(([]:List Segment),([]:List (List BA))),_,_,hF,rfl,rfl⟩
 ·replace hF:=W.ite_f hb1 hF
  refine At.skip (At.vl (At.seq (At.region (At.d R R R R (jc (ja R) 0 R (Sub.self Jy) ty_76) ?_))))
  replace hF:=W.vq hF
  refine At.f R (jo R R (jq R en_31 (jf (ja R) jg)) [] R (Jd.ok hF)) ?_
  rintro _ _ ⟨_,_,⟨r2,v1,hF,rfl,rfl⟩,rfl,rfl⟩
  refine At.d R R R R (jd (x:=(.eq v1)) (ja R)) ?_
  refine At.done (At.vl (At.seq (At.region (At.d R R R R (jd (x:=(.eq (.slice none 0 0))) (opd_eq _)) ?_))))
  refine At.done (At.vl ?_)
  refine At.cut (fun rs L=>∃ (x4:(List (List BA))) (v9:Value),qf.c1 r1 r2 x4 Q∧rs=[.box g2 76 Jy r1.1,.row v1 82 Ju r2,.row v9 41 (kSlice kStr) x4]∧L=mkL [(4,(.eq (.pointer (some ⟨g2,0,none⟩)))),(6,(.eq v1)),(7,(.eq v9))]) ?_ ?_
  ·refine At.seq (At.region (At.d R R R R (jb (x:=(.eq v1)) (ja R)) ?_))
   refine At.d R R R R (does_len_row (ja R) 0 R Tryz.underlying79) ?_
   refine At.d R R R R (jb (x:=(.tv (kInt .i64) (0:Int))) (ji _ _)) ?_
   refine At.done (At.vl (At.block ?_))
   refine At.nilrow 41 (kSlice kStr) ?_
   obtain ⟨n1,hF⟩:=hF
   refine At.w [2,1,0] R [(4,(.eq (.pointer (some ⟨g2,0,none⟩)))),(6,(.eq v1)),(7,(.eq (.slice none 0 0))),(19,(.eq v1)),(20,(.tv (kInt .i64) (r2.length:Int))),(21,(.tv (kInt .i64) (0:Int)))] ⟨R,R,R,R,R,R,trivial⟩ ?_
   refine At.loop (fun m rs L=>∃ (x7:(List (List BA))) (v17:Value) (t6:Int),W.iter2 (qf.l1 r2 (qf.c1 r1 r2)) m x7 t6 Q∧rs=[.box g2 76 Jy r1.1,.row v1 82 Ju r2,.row v17 41 (kSlice kStr) x7]∧L=mkL [(4,(.eq (.pointer (some ⟨g2,0,none⟩)))),(6,(.eq v1)),(7,(.eq v17)),(19,(.eq v1)),(20,(.tv (kInt .i64) (r2.length:Int))),(21,(.tv (kInt .i64) t6))]) ?_ ?_ (m:=n1) ⟨([]:List (List BA)),(.slice none 0 0),(0:Int),hF,R,R⟩
   ·rintro rs L ⟨_,_,_,hF,_,_⟩;exact hF
   ·rintro m2 _ _ ⟨x7,v17,t6,hF,rfl,rfl⟩
    replace hF:=W.iter2_s hF
    unfold qf.l1 at hF
    refine At.seq (At.region (At.d R R R R (jk (ja R) (ja R) vg) ?_))
    refine At.done (At.vl (At.seq ?_))
    refine At.cond (ja R) (fun hb6=>?_) (fun hb6=>?_)
    ·replace hF:=W.ite_t hb6 hF
     refine At.skip (At.vl (At.seq (At.block (At.seq (At.region ?_)))))
     obtain ⟨hq13,hF⟩:=hF
     refine At.d R R R R (does_idx_row (ja R) 1 R (ja R) Tryz.underlying79 ty_82 hq13) ?_
     obtain ⟨hq14,hF⟩:=hF
     refine At.d R R R R (Jh (ja R) 1 R t6 0 R Vd hq14 (Sub.self Ju) ty_82) ?_
     refine At.f R (eff_alloc R R R tz_82) ?_
     rintro _ _ ⟨g7,rfl,rfl⟩
     refine At.f R (jz R R (ja R) 0 R (Sub.self Ju) ty_82 (ja R)) ?_
     rintro _ _ ⟨rfl,rfl⟩
     refine At.done (At.vl (At.region (At.d R R R R (jb (x:=(.eq v17)) (ja R)) ?_)))
     refine At.d R R R R (je (ja R) fa_82_1) ?_
     refine At.d R R R R (jc (ja R) 0 R zq ty_41) ?_
     refine At.f R (vc R R R (os:=[.tmp 27]) R sl_28 (xs:=([(rd Vd r2 t6).owners]:List (List BA))) (jf (ja R) jg) R R) ?_
     rintro _ _ ⟨v18,rfl,rfl⟩
     obtain ⟨hq15,hF⟩:=hF
     refine At.f R (eff_append_row R R R 4 0 R R (ja R) (ja R) sl_28 hq15) ?_
     rintro _ _ ⟨v19,rfl,rfl⟩
     refine At.d R R R R (jd (x:=(.eq v19)) (ja R)) ?_
     refine At.done ?_
     refine At.n ?_
     refine At.vl (At.region (At.d R R R R (jk (ja R) (ji _ _) vf) ?_))
     refine At.d R R R R (jb (x:=(.tv (kInt .i64) (w64 (t6+(1:Int))))) (ja R)) ?_
     refine At.done (At.vl ?_)
     refine At.w [2,3,4] R [(4,(.eq (.pointer (some ⟨g2,0,none⟩)))),(6,(.eq v1)),(7,(.eq v19)),(19,(.eq v1)),(20,(.tv (kInt .i64) (r2.length:Int))),(21,(.tv (kInt .i64) (w64 (t6+(1:Int)))))] ⟨R,R,R,R,R,R,trivial⟩ (At.r ⟨(x7++([(rd Vd r2 t6).owners]:List (List BA))),v19,(w64 (t6+(1:Int))),hF,R,R⟩)
    ·replace hF:=W.ite_f hb6 hF
     refine At.exit ?_
     refine At.x (At.x ?_)
     refine At.h ?_
     refine At.vl ?_
     refine At.w [0,1,2] R [(4,(.eq (.pointer (some ⟨g2,0,none⟩)))),(6,(.eq v1)),(7,(.eq v17))] ⟨R,R,R,trivial⟩ (At.r ⟨x7,v17,hF,R,R⟩)
  ·rintro _ _ ⟨x4,v9,hF,rfl,rfl⟩
   unfold qf.c1 at hF
   refine At.seq (At.region (At.d R R R R (jc (ja R) 0 R (Sub.self Jy) ty_76) ?_))
   refine At.d R R R R (jb (x:=(.eq v1)) (ja R)) ?_
   refine At.freeze2 1 6 32 R R R ?_
   replace hF:=W.vq hF
   refine At.f R (jo R R (jq R en_32 (jf (ja R) (jf (ja R) jg))) [] R (Jj.ok hF)) ?_
   rintro _ _ ⟨_,_,⟨r3,v10,hF,rfl,rfl⟩,rfl,rfl⟩
   refine At.d R R R R (jb (x:=(.eq v9)) (ja R)) ?_
   refine At.d R R R R (jd (x:=(.eq v10)) (ja R)) ?_
   refine At.d R R R R (jd (x:=(.eq v9)) (ja R)) ?_
   refine At.done (At.vl (At.ret ?_))
   exact At.ret_2 rfl (rv_tmp rfl) (rv_tmp rfl) [0,3] rfl ⟨(r3,x4),_,_,hF,rfl,rfl⟩
def yu.F (id1:BA) (x1:Int) (y1:Int):W Object:=W.ret (⟨id1,(1:Int),(⟨x1,y1⟩:Point),([]:List BA),([]:List Tag)⟩:Object)
theorem yu.ok {id1:BA} {x1:Int} {y1:Int} {Q:Object→Prop} (hF:yu.F id1 x1 y1 Q):Con Tryz.prog 64 [.tv kStr id1,.tv (kInt .i64) x1,.tv (kInt .i64) y1] [] (fun ta rs'=>∃ (r:Object),Q r∧ta=.tv kObject r∧rs'=[]):=by
 refine Con.i Tryz.func64 Tryz.ntmps64 R R (fun C=>?_)
 unfold yu.F at hF
 refine At.seq (At.region (At.f R (eff_alloc R R R tz_59) ?_))
 rintro _ _ ⟨g1,rfl,rfl⟩
 refine At.done (At.vl (At.seq (At.region (At.d R R R R (jb (x:=(.tv kStr id1)) (ja R)) ?_))))
 refine At.d R R R R (jb (x:=(.tv (kInt .i64) x1)) (ja R)) ?_
 refine At.d R R R R (jb (x:=(.tv (kInt .i64) y1)) (ja R)) ?_
 refine At.d R R R R (vd (jr (ja R) (jr (ja R) js)) zr_37 bd_37 R (fills_cons R Vx (fills_cons R qn fills_nil))) ?_
 refine At.d R R R R (vd (jr (ja R) (jr (ji _ _) (jr (ja R) js))) zr_59 bd_59 R (fills_cons R qm (fills_cons R qa (fills_cons R wm fills_nil)))) ?_
 refine At.f R (jz R R (ja R) 0 R (Sub.self kObject) ty_59 (ja R)) ?_
 rintro _ _ ⟨rfl,rfl⟩
 refine At.done (At.vl (At.ret ?_))
 exact At.j rfl (rv_cell rfl 0 rfl ty_59) [] rfl ⟨(⟨id1,(1:Int),(⟨x1,y1⟩:Point),([]:List BA),([]:List Tag)⟩:Object),hF,rfl,rfl⟩
def qr.F (ways1:(List Object)):W Map:=W.bind (yu.F (⟨#[97]⟩:BA) (0:Int) (0:Int)) (fun r1=>W.bind (yu.F (⟨#[98]⟩:BA) (4:Int) (4:Int)) (fun r2=>W.bind (yu.F (⟨#[99]⟩:BA) (0:Int) (4:Int)) (fun r3=>W.bind (yu.F (⟨#[100]⟩:BA) (4:Int) (0:Int)) (fun r4=>W.req ((([r1,r2,r3,r4]:List Object).length+ways1.length)*88≤140737488355328∧([r1,r2,r3,r4]:List Object).length+ways1.length≤140737488355328) (W.ret (⟨(([r1,r2,r3,r4]:List Object)++ways1)⟩:Map))))))
theorem qr.ok {ways1:(List Object)} {Q:Map→Prop} (hF:qr.F ways1 Q):Con Tryz.prog 28 [.tv (kSlice kObject) ways1] [] (fun ta rs'=>∃ (r:Map),Q r∧ta=.tv kMap r∧rs'=[]):=by
 refine Con.i Tryz.func28 Tryz.ntmps28 R R (fun C=>?_)
 unfold qr.F at hF
 refine At.seq (At.region (At.f R (eff_alloc R R R tz_24) ?_))
 rintro _ _ ⟨g1,rfl,rfl⟩
 refine At.done (At.vl (At.seq (At.region ?_)))
 replace hF:=W.vq hF
 refine At.f R (jo R R (jq R en_64 (jf (vk _) (jf (ji _ _) (jf (ji _ _) jg)))) [] R (yu.ok hF)) ?_
 rintro _ _ ⟨_,_,⟨r1,hF,rfl,rfl⟩,rfl,rfl⟩
 replace hF:=W.vq hF
 refine At.f R (jo R R (jq R en_64 (jf (vk _) (jf (ji _ _) (jf (ji _ _) jg)))) [] R (yu.ok hF)) ?_
 rintro _ _ ⟨_,_,⟨r2,hF,rfl,rfl⟩,rfl,rfl⟩
 replace hF:=W.vq hF
 refine At.f R (jo R R (jq R en_64 (jf (vk _) (jf (ji _ _) (jf (ji _ _) jg)))) [] R (yu.ok hF)) ?_
 rintro _ _ ⟨_,_,⟨r3,hF,rfl,rfl⟩,rfl,rfl⟩
 replace hF:=W.vq hF
 refine At.f R (jo R R (jq R en_64 (jf (vk _) (jf (ji _ _) (jf (ji _ _) jg)))) [] R (yu.ok hF)) ?_
 rintro _ _ ⟨_,_,⟨r4,hF,rfl,rfl⟩,rfl,rfl⟩
 refine At.f R (vc R R R (os:=[.tmp 4,.tmp 5,.tmp 6,.tmp 7]) R sl_22 (xs:=([r1,r2,r3,r4]:List Object)) (jf (ja R) (jf (ja R) (jf (ja R) (jf (ja R) jg)))) R R) ?_
 rintro _ _ ⟨v1,rfl,rfl⟩
 refine At.d R R R R (jd (x:=(.eq v1)) (ja R)) ?_
 refine At.done (At.vl (At.seq (At.region (At.d R R R R (jb (x:=(.eq v1)) (ja R)) ?_))))
 refine At.d R R R R (jb (x:=(.tv (kSlice kObject) ways1)) (ja R)) ?_
 obtain ⟨hq1,hF⟩:=hF
 refine At.f R (eff_append_view R R R 0 R (ja R) (ja R) sl_22 hq1) ?_
 rintro _ _ ⟨v2,rfl,rfl⟩
 refine At.freeze 0 11 R R ?_
 refine At.d R R R R (vd (jr (ja R) js) zr_24 bd_24 R (fills_cons R qc fills_nil)) ?_
 refine At.f R (jz R R (ja R) 1 R (Sub.self kMap) ty_24 (ja R)) ?_
 rintro _ _ ⟨rfl,rfl⟩
 refine At.done (At.vl (At.ret ?_))
 exact At.j rfl (rv_cell rfl 1 rfl ty_24) [] rfl ⟨(⟨(([r1,r2,r3,r4]:List Object)++ways1)⟩:Map),hF,rfl,rfl⟩
def qi.F (id1:BA) (refs1:(List BA)):W Object:=W.ret (⟨id1,(2:Int),zPoint,refs1,([]:List Tag)⟩:Object)
theorem qi.ok {id1:BA} {refs1:(List BA)} {Q:Object→Prop} (hF:qi.F id1 refs1 Q):Con Tryz.prog 27 [.tv kStr id1,.tv (kSlice kStr) refs1] [] (fun ta rs'=>∃ (r:Object),Q r∧ta=.tv kObject r∧rs'=[]):=by
 refine Con.i Tryz.func27 Tryz.ntmps27 R R (fun C=>?_)
 unfold qi.F at hF
 refine At.seq (At.region (At.f R (eff_alloc R R R tz_59) ?_))
 rintro _ _ ⟨g1,rfl,rfl⟩
 refine At.done (At.vl (At.seq (At.region (At.d R R R R (jb (x:=(.tv kStr id1)) (ja R)) ?_))))
 refine At.d R R R R (jb (x:=(.tv (kSlice kStr) refs1)) (ja R)) ?_
 refine At.d R R R R (vd (jr (ja R) (jr (ji _ _) (jr (ja R) js))) zr_59 bd_59 R (fills_cons R qm (fills_cons R qa (fills_cons R Vl fills_nil)))) ?_
 refine At.f R (jz R R (ja R) 0 R (Sub.self kObject) ty_59 (ja R)) ?_
 rintro _ _ ⟨rfl,rfl⟩
 refine At.done (At.vl (At.ret ?_))
 exact At.j rfl (rv_cell rfl 0 rfl ty_59) [] rfl ⟨(⟨id1,(2:Int),zPoint,refs1,([]:List Tag)⟩:Object),hF,rfl,rfl⟩
def qp.c1 (a1:(List BA)) (b1:(List BA)):W Bool:=W.ret (decide ((a1.length:Int)<(b1.length:Int)))
def qp.l1 (a1:(List BA)) (b1:(List BA)) (K1:W Bool) (A1:Int→W Bool) (i6:Int):W Bool:=W.ite ((decide (i6<(a1.length:Int)))&&(decide (i6<(b1.length:Int)))) (W.req (0≤i6∧i6<(a1.length:Int)) (W.req (0≤i6∧i6<(b1.length:Int)) (W.ite (!(sEq (rd (⟨#[]⟩:BA) a1 i6) (rd (⟨#[]⟩:BA) b1 i6))) (W.req (0≤i6∧i6<(a1.length:Int)) (W.req (0≤i6∧i6<(b1.length:Int)) (W.ret (sLt (rd (⟨#[]⟩:BA) a1 i6) (rd (⟨#[]⟩:BA) b1 i6))))) (A1 (w64 (i6+(1:Int))))))) (K1)
def qp.F (a1:(List BA)) (b1:(List BA)):W Bool:=W.ex fun n=>W.iter1 (qp.l1 a1 b1 (qp.c1 a1 b1)) n (0:Int)
theorem qp.ok {a1:(List BA)} {b1:(List BA)} {Q:Bool→Prop} (hF:qp.F a1 b1 Q):Con Tryz.prog 21 [.tv (kSlice kStr) a1,.tv (kSlice kStr) b1] [] (fun ta rs'=>∃ (r:Bool),Q r∧ta=.tv kBool r∧rs'=[]):=by
 refine Con.i Tryz.func21 Tryz.ntmps21 R R (fun C=>?_)
 unfold qp.F at hF
 refine At.seq (At.region (At.d R R R R (jd (x:=(.tv kBool false)) (jl _)) ?_))
 refine At.done (At.vl ?_)
 refine At.cut (fun rs L=>∃ _:Unit,qp.c1 a1 b1 Q∧rs=[]∧L=mkL [(0,(.tv (kSlice kStr) a1)),(1,(.tv (kSlice kStr) b1))]) ?_ ?_
 ·refine At.seq (At.region (At.d R R R R (jd (x:=(.tv (kInt .i64) (0:Int))) (ji _ _)) ?_))
  refine At.done (At.vl (At.block ?_))
  obtain ⟨n1,hF⟩:=hF
  refine At.w [] R [(0,(.tv (kSlice kStr) a1)),(1,(.tv (kSlice kStr) b1)),(5,(.tv (kInt .i64) (0:Int)))] ⟨R,R,R,trivial⟩ ?_
  refine At.loop (fun m rs L=>∃ (i6:Int),W.iter1 (qp.l1 a1 b1 (qp.c1 a1 b1)) m i6 Q∧rs=[]∧L=mkL [(0,(.tv (kSlice kStr) a1)),(1,(.tv (kSlice kStr) b1)),(5,(.tv (kInt .i64) i6))]) ?_ ?_ (m:=n1) ⟨(0:Int),hF,R,R⟩
  ·rintro rs L ⟨_,hF,_,_⟩;exact hF
  ·rintro m1 _ _ ⟨i6,hF,rfl,rfl⟩
   replace hF:=W.iter1_s hF
   unfold qp.l1 at hF
   refine At.seq (At.seq (At.region (At.d R R R R (jb (x:=(.tv (kInt .i64) i6)) (ja R)) ?_)))
   refine At.d R R R R (jb (x:=(.tv (kSlice kStr) a1)) (ja R)) ?_
   refine At.d R R R R (jt (ja R) Tryz.underlying41) ?_
   refine At.d R R R R (jk (ja R) (ja R) vg) ?_
   refine At.d R R R R (jb (x:=(.tv kBool (decide (i6<(a1.length:Int))))) (ja R)) ?_
   refine At.vn R R R R (jw R) R (fun hg17=>(jb (x:=(.tv (kInt .i64) i6)) (ja R))) ?_
   refine At.vn R R R R (jw R) R (fun hg18=>(jb (x:=(.tv (kSlice kStr) b1)) (ja R))) ?_
   refine At.vn R R R R (jw R) R (fun hg19=>(jt (jh R hg19) Tryz.underlying41)) ?_
   refine At.vn R R R R (jw R) R (fun hg20=>(jk (jh R hg20) (jh R hg20) vg)) ?_
   refine At.d R R R R (jm (ja R) (ja R) (jl _) vh) ?_
   refine At.done (At.vl ?_)
   refine At.cond (ja R) (fun hb9=>?_) (fun hb9=>?_)
   ·replace hF:=W.ite_t hb9 hF
    refine At.skip (At.vl (At.seq (At.block (At.seq ?_))))
    refine At.draw mixed [] R [] (fun φ w hgd=>?_)
    obtain ⟨hq17,hF⟩:=hF
    obtain ⟨hq18,hF⟩:=hF
    refine AtH.take [] hgd 0 R R R R (D':=#[Y,N,N,N,N,N,N,N,N]) (by kernel_rfl) (fun _ _ _ _ h=>h) R (jb (x:=(.tv (kSlice kStr) a1)) (ja R)) ?_
    refine AtH.take [] hgd 1 R R R R (D':=#[Y,Y,N,N,N,N,N,N,N]) (by kernel_rfl) (fun _ _ _ _ h=>h) R (jb (x:=(.tv (kInt .i64) i6)) (ja R)) ?_
    refine AtH.take [] hgd 2 R R R R (D':=#[Y,Y,Y,N,N,N,N,N,N]) (by kernel_rfl) (fun _ _ _ _ h=>h) R (vj (⟨#[]⟩:BA) (ja R) (ja R) Tryz.underlying41 ty_9 hq17) ?_
    refine AtH.take [] hgd 3 R R R R (D':=#[Y,Y,Y,Y,N,N,N,N,N]) (by kernel_rfl) (fun _ _ _ _ h=>h) R (vw (K:=kStr) (ja R) ty_9) ?_
    refine AtH.take [] hgd 4 R R R R (D':=#[Y,Y,Y,Y,Y,N,N,N,N]) (by kernel_rfl) (fun _ _ _ _ h=>h) R (jb (x:=(.tv (kSlice kStr) b1)) (ja R)) ?_
    refine AtH.take [] hgd 5 R R R R (D':=#[Y,Y,Y,Y,Y,Y,N,N,N]) (by kernel_rfl) (fun _ _ _ _ h=>h) R (jb (x:=(.tv (kInt .i64) i6)) (ja R)) ?_
    refine AtH.take [] hgd 6 R R R R (D':=#[Y,Y,Y,Y,Y,Y,Y,N,N]) (by kernel_rfl) (fun _ _ _ _ h=>h) R (vj (⟨#[]⟩:BA) (ja R) (ja R) Tryz.underlying41 ty_9 hq18) ?_
    refine AtH.take [] hgd 7 R R R R (D':=#[Y,Y,Y,Y,Y,Y,Y,Y,N]) (by kernel_rfl) (fun _ _ _ _ h=>h) R (vw (K:=kStr) (ja R) ty_9) ?_
    refine AtH.take [] hgd 8 R R R R (D':=#[Y,Y,Y,Y,Y,Y,Y,Y,Y]) (by kernel_rfl) (fun _ _ _ _ h=>h) R (jk (ja R) (ja R) bin_sneq) ?_
    refine AtH.done (by kernel_rfl) ?_
    refine At.vl ?_
    refine At.cond (ja R) (fun hb10=>?_) (fun hb10=>?_)
    ·replace hF:=W.ite_t hb10 hF
     refine At.seq ?_
     refine At.draw mixed [] R [] (fun φ w hgd=>?_)
     obtain ⟨hq19,hF⟩:=hF
     obtain ⟨hq20,hF⟩:=hF
     refine AtH.take [] hgd 0 R R R R (D':=#[Y,N,N,N,N,N,N,N,N,N]) (by kernel_rfl) (fun _ _ _ _ h=>h) R (jb (x:=(.tv (kSlice kStr) a1)) (ja R)) ?_
     refine AtH.take [] hgd 1 R R R R (D':=#[Y,Y,N,N,N,N,N,N,N,N]) (by kernel_rfl) (fun _ _ _ _ h=>h) R (jb (x:=(.tv (kInt .i64) i6)) (ja R)) ?_
     refine AtH.take [] hgd 2 R R R R (D':=#[Y,Y,Y,N,N,N,N,N,N,N]) (by kernel_rfl) (fun _ _ _ _ h=>h) R (vj (⟨#[]⟩:BA) (ja R) (ja R) Tryz.underlying41 ty_9 hq19) ?_
     refine AtH.take [] hgd 3 R R R R (D':=#[Y,Y,Y,Y,N,N,N,N,N,N]) (by kernel_rfl) (fun _ _ _ _ h=>h) R (vw (K:=kStr) (ja R) ty_9) ?_
     refine AtH.take [] hgd 4 R R R R (D':=#[Y,Y,Y,Y,Y,N,N,N,N,N]) (by kernel_rfl) (fun _ _ _ _ h=>h) R (jb (x:=(.tv (kSlice kStr) b1)) (ja R)) ?_
     refine AtH.take [] hgd 5 R R R R (D':=#[Y,Y,Y,Y,Y,Y,N,N,N,N]) (by kernel_rfl) (fun _ _ _ _ h=>h) R (jb (x:=(.tv (kInt .i64) i6)) (ja R)) ?_
     refine AtH.take [] hgd 6 R R R R (D':=#[Y,Y,Y,Y,Y,Y,Y,N,N,N]) (by kernel_rfl) (fun _ _ _ _ h=>h) R (vj (⟨#[]⟩:BA) (ja R) (ja R) Tryz.underlying41 ty_9 hq20) ?_
     refine AtH.take [] hgd 7 R R R R (D':=#[Y,Y,Y,Y,Y,Y,Y,Y,N,N]) (by kernel_rfl) (fun _ _ _ _ h=>h) R (vw (K:=kStr) (ja R) ty_9) ?_
     refine AtH.take [] hgd 8 R R R R (D':=#[Y,Y,Y,Y,Y,Y,Y,Y,Y,N]) (by kernel_rfl) (fun _ _ _ _ h=>h) R (jk (ja R) (ja R) bin_slss) ?_
     refine AtH.take [] hgd 9 R R R R (D':=#[Y,Y,Y,Y,Y,Y,Y,Y,Y,Y]) (by kernel_rfl) (fun _ _ _ _ h=>h) R (jd (x:=(.tv kBool (sLt (rd (⟨#[]⟩:BA) a1 i6) (rd (⟨#[]⟩:BA) b1 i6)))) (ja R)) ?_
     refine AtH.done (by kernel_rfl) ?_
     refine At.vl (At.ret ?_)
     refine At.q ?_
     refine At.vm (At.vm ?_)
     refine At.q ?_
     refine At.vm ?_
     exact At.j rfl (rv_tmp rfl) [] rfl ⟨(sLt (rd (⟨#[]⟩:BA) a1 i6) (rd (⟨#[]⟩:BA) b1 i6)),hF,rfl,rfl⟩
    ·replace hF:=W.ite_f hb10 hF
     refine At.skip ?_
     refine At.n ?_
     refine At.vl (At.region (At.d R R R R (jb (x:=(.tv (kInt .i64) i6)) (ja R)) ?_))
     refine At.d R R R R (jk (ja R) (ji _ _) vf) ?_
     refine At.d R R R R (jd (x:=(.tv (kInt .i64) (w64 (i6+(1:Int))))) (ja R)) ?_
     refine At.done (At.vl ?_)
     refine At.w [] R [(0,(.tv (kSlice kStr) a1)),(1,(.tv (kSlice kStr) b1)),(5,(.tv (kInt .i64) (w64 (i6+(1:Int)))))] ⟨R,R,R,trivial⟩ (At.r ⟨(w64 (i6+(1:Int))),hF,R,R⟩)
   ·replace hF:=W.ite_f hb9 hF
    refine At.exit ?_
    refine At.x (At.x ?_)
    refine At.h ?_
    refine At.vl ?_
    refine At.w [] R [(0,(.tv (kSlice kStr) a1)),(1,(.tv (kSlice kStr) b1))] ⟨R,R,trivial⟩ (At.r ⟨(),hF,R,R⟩)
 ·rintro _ _ ⟨_,hF,rfl,rfl⟩
  unfold qp.c1 at hF
  refine At.seq (At.region (At.d R R R R (jb (x:=(.tv (kSlice kStr) a1)) (ja R)) ?_))
  refine At.d R R R R (jt (ja R) Tryz.underlying41) ?_
  refine At.d R R R R (jb (x:=(.tv (kSlice kStr) b1)) (ja R)) ?_
  refine At.d R R R R (jt (ja R) Tryz.underlying41) ?_
  refine At.d R R R R (jk (ja R) (ja R) vg) ?_
  refine At.d R R R R (jd (x:=(.tv kBool (decide ((a1.length:Int)<(b1.length:Int))))) (ja R)) ?_
  refine At.done (At.vl (At.ret ?_))
  exact At.j rfl (rv_tmp rfl) [] rfl ⟨(decide ((a1.length:Int)<(b1.length:Int))),hF,rfl,rfl⟩
def ja7.F (a1:(List BA)) (b1:(List BA)):W Bool:=W.bind (qp.F a1 b1) (fun r1=>W.bind (W.ite (!r1) (qp.F b1 a1) (W.ret false)) (fun r2=>W.ret ((!r1)&&(!r2))))
theorem ja7.ok {a1:(List BA)} {b1:(List BA)} {Q:Bool→Prop} (hF:ja7.F a1 b1 Q):Con Tryz.prog 29 [.tv (kSlice kStr) a1,.tv (kSlice kStr) b1] [] (fun ta rs'=>∃ (r:Bool),Q r∧ta=.tv kBool r∧rs'=[]):=by
 refine Con.i Tryz.func29 Tryz.ntmps29 R R (fun C=>?_)
 unfold ja7.F at hF
 refine At.seq (At.region (At.d R R R R (jd (x:=(.tv kBool false)) (jl _)) ?_))
 refine At.done (At.vl (At.seq (At.region (At.d R R R R (jb (x:=(.tv (kSlice kStr) a1)) (ja R)) ?_))))
 refine At.d R R R R (jb (x:=(.tv (kSlice kStr) b1)) (ja R)) ?_
 replace hF:=W.vq hF
 refine At.f R (jn R R jp (jq R en_21 (jf (ja R) (jf (ja R) jg))) (qp.ok hF) (by rintro _ _ ⟨r,_,rfl,_⟩;exact vp)) ?_
 rintro _ _ ⟨_,_,⟨r1,hF,rfl,rfl⟩,rfl,rfl⟩
 refine At.d R R R R (ve (ja R)) ?_
 refine At.d R R R R (jb (x:=(.tv kBool (!r1))) (ja R)) ?_
 refine At.vn R R R R (jw R) R (fun hg1=>(jb (x:=(.tv (kSlice kStr) b1)) (ja R))) ?_
 refine At.vn R R R R (jw R) R (fun hg2=>(jb (x:=(.tv (kSlice kStr) a1)) (ja R))) ?_
 replace hF:=W.vq hF
 refine At.effG R R R R (jw R) hF (fun r=>.tv kBool r) (fun hg3 hF=>vr (jn R R jp (jq R en_21 (jf (jh R hg3) (jf (jh R hg3) jg))) (qp.ok hF) (by rintro _ _ ⟨r,_,rfl,_⟩;exact vp)) (by rintro _ _ ⟨_,_,⟨r,hF,rfl,rfl⟩,rfl,rfl⟩;exact ⟨r,hF,R,R⟩)) (fun r2 hF=>?_)
 refine At.vn R R R R (jw R) R (fun hg4=>(ve (jh R hg4))) ?_
 refine At.d R R R R (jm (ja R) (ja R) (jl _) vh) ?_
 refine At.d R R R R (jd (x:=(.tv kBool ((!r1)&&(!r2)))) (ja R)) ?_
 refine At.done (At.vl (At.ret ?_))
 exact At.j rfl (rv_tmp rfl) [] rfl ⟨((!r1)&&(!r2)),hF,rfl,rfl⟩
def yk.c1 (t1:Bool):W Bool:=W.ret t1
def yk.F:W Bool:=W.bind (qi.F (⟨#[118]⟩:BA) ([(⟨#[97]⟩:BA),(⟨#[98]⟩:BA)]:List BA)) (fun r1=>W.bind (qi.F (⟨#[119]⟩:BA) ([(⟨#[99]⟩:BA),(⟨#[100]⟩:BA)]:List BA)) (fun r2=>W.bind (qr.F ([r1,r2]:List Object)) (fun r3=>W.bind (Jq.F r3) (fun r4=>W.bind (qi.F (⟨#[118]⟩:BA) ([(⟨#[97]⟩:BA),(⟨#[98]⟩:BA)]:List BA)) (fun r5=>W.bind (qi.F (⟨#[119]⟩:BA) ([(⟨#[98]⟩:BA),(⟨#[99]⟩:BA)]:List BA)) (fun r6=>W.bind (qr.F ([r5,r6]:List Object)) (fun r7=>W.bind (Jq.F r7) (fun r8=>W.bind (qi.F (⟨#[118]⟩:BA) ([(⟨#[97]⟩:BA),(⟨#[98]⟩:BA),(⟨#[97]⟩:BA)]:List BA)) (fun r9=>W.bind (qi.F (⟨#[119]⟩:BA) ([(⟨#[98]⟩:BA),(⟨#[97]⟩:BA)]:List BA)) (fun r10=>W.bind (qr.F ([r9,r10]:List Object)) (fun r11=>W.bind (Jq.F r11) (fun r12=>W.bind (qi.F (⟨#[118]⟩:BA) ([(⟨#[97]⟩:BA),(⟨#[98]⟩:BA),(⟨#[97]⟩:BA)]:List BA)) (fun r13=>W.bind (qi.F (⟨#[119]⟩:BA) ([(⟨#[98]⟩:BA),(⟨#[97]⟩:BA)]:List BA)) (fun r14=>W.bind (qr.F ([r13,r14]:List Object)) (fun r15=>W.bind (qf.F r15) (fun r16=>W.ite ((((r4.length:Int) != (1:Int))||((r16.1.length:Int) != (1:Int)))||((r16.2.length:Int) != (1:Int))) (W.ret false) (W.bind (qi.F (⟨#[118]⟩:BA) ([(⟨#[97]⟩:BA),(⟨#[98]⟩:BA)]:List BA)) (fun r17=>W.bind (qr.F ([r17]:List Object)) (fun r18=>W.bind (wt.F r18 (⟨(⟨(4:Int),(4:Int)⟩:Point),(⟨(9:Int),(0:Int)⟩:Point)⟩:Segment)) (fun r19=>W.req (0≤(0:Int)∧(0:Int)<(r4.length:Int)) (W.req (0≤(0:Int)∧(0:Int)<(r4.length:Int)) (W.bind (ja7.F ((rd zViolation r4 (0:Int)).Ids) ([(⟨#[118]⟩:BA),(⟨#[119]⟩:BA)]:List BA)) (fun r25=>W.req (r25=true→0≤(0:Int)∧(0:Int)<(r4.length:Int)) (W.req (r25=true→0≤(0:Int)∧(0:Int)<(r4.length:Int)) (W.req ((((r25&&(((rd zViolation r4 (0:Int)).Kind)==(2:Int)))&&((r8.length:Int)==(0:Int)))&&((r12.length:Int)==(0:Int)))=true→0≤(0:Int)∧(0:Int)<(r16.2.length:Int)) (W.req ((((r25&&(((rd zViolation r4 (0:Int)).Kind)==(2:Int)))&&((r8.length:Int)==(0:Int)))&&((r12.length:Int)==(0:Int)))=true→0≤(0:Int)∧(0:Int)<(r16.2.length:Int)) (W.ite (((r25&&(((rd zViolation r4 (0:Int)).Kind)==(2:Int)))&&((r8.length:Int)==(0:Int)))&&((r12.length:Int)==(0:Int))) (W.bind (ja7.F (rd ([]:List BA) r16.2 (0:Int)) ([(⟨#[118]⟩:BA),(⟨#[119]⟩:BA)]:List BA)) (fun r26=>W.ite (r26&&r19) (W.bind (qi.F (⟨#[118]⟩:BA) ([(⟨#[97]⟩:BA),(⟨#[98]⟩:BA)]:List BA)) (fun r27=>W.bind (qr.F ([r27]:List Object)) (fun r28=>W.bind (wt.F r28 (⟨(⟨(2:Int),(2:Int)⟩:Point),(⟨(9:Int),(0:Int)⟩:Point)⟩:Segment)) (fun r29=>(yk.c1) (!r29))))) ((yk.c1) false))) ((yk.c1) false))))))))))))))))))))))))))))
theorem yk.ok {Q:Bool→Prop} (hF:yk.F Q):Con Tryz.prog 10 [] [] (fun ta rs'=>∃ (r:Bool),Q r∧ta=.tv kBool r∧rs'=[]):=by
 refine Con.i Tryz.func10 Tryz.ntmps10 R R (fun C=>?_)
 unfold yk.F at hF
 refine At.seq (At.region (At.d R R R R (jd (x:=(.tv kBool false)) (jl _)) ?_))
 refine At.done (At.vl (At.seq (At.region (At.f R (vc R R R (os:=[.const (.string (⟨#[97]⟩:BA)),.const (.string (⟨#[98]⟩:BA))]) R sl_41 (xs:=([(⟨#[97]⟩:BA),(⟨#[98]⟩:BA)]:List BA)) (jf (vk _) (jf (vk _) jg)) R R) ?_))))
 rintro _ _ ⟨v1,rfl,rfl⟩
 refine At.freeze 0 7 R R ?_
 replace hF:=W.vq hF
 refine At.f R (jo R R (jq R en_27 (jf (vk _) (jf (ja R) jg))) [] R (qi.ok hF)) ?_
 rintro _ _ ⟨_,_,⟨r1,hF,rfl,rfl⟩,rfl,rfl⟩
 refine At.f R (vc R R R (os:=[.const (.string (⟨#[99]⟩:BA)),.const (.string (⟨#[100]⟩:BA))]) R sl_41 (xs:=([(⟨#[99]⟩:BA),(⟨#[100]⟩:BA)]:List BA)) (jf (vk _) (jf (vk _) jg)) R R) ?_
 rintro _ _ ⟨v2,rfl,rfl⟩
 refine At.freeze 0 9 R R ?_
 replace hF:=W.vq hF
 refine At.f R (jo R R (jq R en_27 (jf (vk _) (jf (ja R) jg))) [] R (qi.ok hF)) ?_
 rintro _ _ ⟨_,_,⟨r2,hF,rfl,rfl⟩,rfl,rfl⟩
 refine At.f R (vc R R R (os:=[.tmp 8,.tmp 10]) R sl_22 (xs:=([r1,r2]:List Object)) (jf (ja R) (jf (ja R) jg)) R R) ?_
 rintro _ _ ⟨v3,rfl,rfl⟩
 refine At.freeze 0 11 R R ?_
 replace hF:=W.vq hF
 refine At.f R (jo R R (jq R en_28 (jf (ja R) jg)) [] R (qr.ok hF)) ?_
 rintro _ _ ⟨_,_,⟨r3,hF,rfl,rfl⟩,rfl,rfl⟩
 replace hF:=W.vq hF
 refine At.f R (jo R R (jq R en_16 (jf (ja R) jg)) [] R (Jq.ok hF)) ?_
 rintro _ _ ⟨_,_,⟨r4,v4,hF,rfl,rfl⟩,rfl,rfl⟩
 refine At.d R R R R (jd (x:=(.eq v4)) (ja R)) ?_
 refine At.done (At.vl (At.seq (At.region (At.f R (vc R R R (os:=[.const (.string (⟨#[97]⟩:BA)),.const (.string (⟨#[98]⟩:BA))]) R sl_41 (xs:=([(⟨#[97]⟩:BA),(⟨#[98]⟩:BA)]:List BA)) (jf (vk _) (jf (vk _) jg)) R R) ?_))))
 rintro _ _ ⟨v5,rfl,rfl⟩
 refine At.freeze 0 14 R R ?_
 replace hF:=W.vq hF
 refine At.f R (jo R R (jq R en_27 (jf (vk _) (jf (ja R) jg))) [] R (qi.ok hF)) ?_
 rintro _ _ ⟨_,_,⟨r5,hF,rfl,rfl⟩,rfl,rfl⟩
 refine At.f R (vc R R R (os:=[.const (.string (⟨#[98]⟩:BA)),.const (.string (⟨#[99]⟩:BA))]) R sl_41 (xs:=([(⟨#[98]⟩:BA),(⟨#[99]⟩:BA)]:List BA)) (jf (vk _) (jf (vk _) jg)) R R) ?_
 rintro _ _ ⟨v6,rfl,rfl⟩
 refine At.freeze 0 16 R R ?_
 replace hF:=W.vq hF
 refine At.f R (jo R R (jq R en_27 (jf (vk _) (jf (ja R) jg))) [] R (qi.ok hF)) ?_
 rintro _ _ ⟨_,_,⟨r6,hF,rfl,rfl⟩,rfl,rfl⟩
 refine At.f R (vc R R R (os:=[.tmp 15,.tmp 17]) R sl_22 (xs:=([r5,r6]:List Object)) (jf (ja R) (jf (ja R) jg)) R R) ?_
 rintro _ _ ⟨v7,rfl,rfl⟩
 refine At.freeze 0 18 R R ?_
 replace hF:=W.vq hF
 refine At.f R (jo R R (jq R en_28 (jf (ja R) jg)) [] R (qr.ok hF)) ?_
 rintro _ _ ⟨_,_,⟨r7,hF,rfl,rfl⟩,rfl,rfl⟩
 replace hF:=W.vq hF
 refine At.f R (jo R R (jq R en_16 (jf (ja R) jg)) [] R (Jq.ok hF)) ?_
 rintro _ _ ⟨_,_,⟨r8,v8,hF,rfl,rfl⟩,rfl,rfl⟩
 refine At.d R R R R (jd (x:=(.eq v8)) (ja R)) ?_
 refine At.done (At.vl (At.seq (At.region (At.f R (vc R R R (os:=[.const (.string (⟨#[97]⟩:BA)),.const (.string (⟨#[98]⟩:BA)),.const (.string (⟨#[97]⟩:BA))]) R sl_41 (xs:=([(⟨#[97]⟩:BA),(⟨#[98]⟩:BA),(⟨#[97]⟩:BA)]:List BA)) (jf (vk _) (jf (vk _) (jf (vk _) jg))) R R) ?_))))
 rintro _ _ ⟨v9,rfl,rfl⟩
 refine At.freeze 0 21 R R ?_
 replace hF:=W.vq hF
 refine At.f R (jo R R (jq R en_27 (jf (vk _) (jf (ja R) jg))) [] R (qi.ok hF)) ?_
 rintro _ _ ⟨_,_,⟨r9,hF,rfl,rfl⟩,rfl,rfl⟩
 refine At.f R (vc R R R (os:=[.const (.string (⟨#[98]⟩:BA)),.const (.string (⟨#[97]⟩:BA))]) R sl_41 (xs:=([(⟨#[98]⟩:BA),(⟨#[97]⟩:BA)]:List BA)) (jf (vk _) (jf (vk _) jg)) R R) ?_
 rintro _ _ ⟨v10,rfl,rfl⟩
 refine At.freeze 0 23 R R ?_
 replace hF:=W.vq hF
 refine At.f R (jo R R (jq R en_27 (jf (vk _) (jf (ja R) jg))) [] R (qi.ok hF)) ?_
 rintro _ _ ⟨_,_,⟨r10,hF,rfl,rfl⟩,rfl,rfl⟩
 refine At.f R (vc R R R (os:=[.tmp 22,.tmp 24]) R sl_22 (xs:=([r9,r10]:List Object)) (jf (ja R) (jf (ja R) jg)) R R) ?_
 rintro _ _ ⟨v11,rfl,rfl⟩
 refine At.freeze 0 25 R R ?_
 replace hF:=W.vq hF
 refine At.f R (jo R R (jq R en_28 (jf (ja R) jg)) [] R (qr.ok hF)) ?_
 rintro _ _ ⟨_,_,⟨r11,hF,rfl,rfl⟩,rfl,rfl⟩
 replace hF:=W.vq hF
 refine At.f R (jo R R (jq R en_16 (jf (ja R) jg)) [] R (Jq.ok hF)) ?_
 rintro _ _ ⟨_,_,⟨r12,v12,hF,rfl,rfl⟩,rfl,rfl⟩
 refine At.d R R R R (jd (x:=(.eq v12)) (ja R)) ?_
 refine At.done (At.vl (At.seq (At.region (At.f R (vc R R R (os:=[.const (.string (⟨#[97]⟩:BA)),.const (.string (⟨#[98]⟩:BA)),.const (.string (⟨#[97]⟩:BA))]) R sl_41 (xs:=([(⟨#[97]⟩:BA),(⟨#[98]⟩:BA),(⟨#[97]⟩:BA)]:List BA)) (jf (vk _) (jf (vk _) (jf (vk _) jg))) R R) ?_))))
 rintro _ _ ⟨v13,rfl,rfl⟩
 refine At.freeze 0 29 R R ?_
 replace hF:=W.vq hF
 refine At.f R (jo R R (jq R en_27 (jf (vk _) (jf (ja R) jg))) [] R (qi.ok hF)) ?_
 rintro _ _ ⟨_,_,⟨r13,hF,rfl,rfl⟩,rfl,rfl⟩
 refine At.f R (vc R R R (os:=[.const (.string (⟨#[98]⟩:BA)),.const (.string (⟨#[97]⟩:BA))]) R sl_41 (xs:=([(⟨#[98]⟩:BA),(⟨#[97]⟩:BA)]:List BA)) (jf (vk _) (jf (vk _) jg)) R R) ?_
 rintro _ _ ⟨v14,rfl,rfl⟩
 refine At.freeze 0 31 R R ?_
 replace hF:=W.vq hF
 refine At.f R (jo R R (jq R en_27 (jf (vk _) (jf (ja R) jg))) [] R (qi.ok hF)) ?_
 rintro _ _ ⟨_,_,⟨r14,hF,rfl,rfl⟩,rfl,rfl⟩
 refine At.f R (vc R R R (os:=[.tmp 30,.tmp 32]) R sl_22 (xs:=([r13,r14]:List Object)) (jf (ja R) (jf (ja R) jg)) R R) ?_
 rintro _ _ ⟨v15,rfl,rfl⟩
 refine At.freeze 0 33 R R ?_
 replace hF:=W.vq hF
 refine At.f R (jo R R (jq R en_28 (jf (ja R) jg)) [] R (qr.ok hF)) ?_
 rintro _ _ ⟨_,_,⟨r15,hF,rfl,rfl⟩,rfl,rfl⟩
 replace hF:=W.vq hF
 refine At.f R (jo R R (jq R en_12 (jf (ja R) jg)) [] R (qf.ok hF)) ?_
 rintro _ _ ⟨_,_,⟨r16,v16,v17,hF,rfl,rfl⟩,rfl,rfl⟩
 refine At.d R R R R (jb (x:=(.tup2 (.eq v16) (.eq v17))) (ja R)) ?_
 refine At.d R R R R (does_extract20 (ja R)) ?_
 refine At.d R R R R (does_extract21 (ja R)) ?_
 refine At.d R R R R (jd (x:=(.eq v16)) (ja R)) ?_
 refine At.d R R R R (jd (x:=(.eq v17)) (ja R)) ?_
 refine At.done (At.vl (At.seq (At.seq (At.region (At.d R R R R (jb (x:=(.eq v4)) (ja R)) ?_)))))
 refine At.d R R R R (does_len_row (ja R) 13 R Tryz.underlying33) ?_
 refine At.d R R R R (jk (ja R) (ji _ _) bin_neq) ?_
 refine At.d R R R R (jb (x:=(.tv kBool ((r4.length:Int) != (1:Int)))) (ja R)) ?_
 refine At.vn R R R R (jx R) R (fun hg1=>(jb (x:=(.eq v16)) (ja R))) ?_
 refine At.vn R R R R (jx R) R (fun hg2=>(does_len_row (jh R hg2) 0 R Tryz.underlying27)) ?_
 refine At.vn R R R R (jx R) R (fun hg3=>(jk (jh R hg3) (ji _ _) bin_neq)) ?_
 refine At.d R R R R (jm (ja R) (jl _) (ja R) vi) ?_
 refine At.d R R R R (jb (x:=(.tv kBool (((r4.length:Int) != (1:Int))||((r16.1.length:Int) != (1:Int))))) (ja R)) ?_
 refine At.vn R R R R (jx R) R (fun hg4=>(jb (x:=(.eq v17)) (ja R))) ?_
 refine At.vn R R R R (jx R) R (fun hg5=>(does_len_row (jh R hg5) 1 R Tryz.underlying28)) ?_
 refine At.vn R R R R (jx R) R (fun hg6=>(jk (jh R hg6) (ji _ _) bin_neq)) ?_
 refine At.d R R R R (jm (ja R) (jl _) (ja R) vi) ?_
 refine At.done (At.vl ?_)
 refine At.cond (ja R) (fun hb1=>?_) (fun hb1=>?_)
 ·replace hF:=W.ite_t hb1 hF
  refine At.seq (At.region (At.d R R R R (jd (x:=(.tv kBool false)) (jl _)) ?_))
  refine At.done (At.vl (At.ret (At.vm ?_)))
  exact At.j rfl (rv_tmp rfl) [] rfl ⟨false,hF,rfl,rfl⟩
 ·replace hF:=W.ite_f hb1 hF
  refine At.skip (At.vl (At.seq (At.region (At.f R (vc R R R (os:=[.const (.string (⟨#[97]⟩:BA)),.const (.string (⟨#[98]⟩:BA))]) R sl_41 (xs:=([(⟨#[97]⟩:BA),(⟨#[98]⟩:BA)]:List BA)) (jf (vk _) (jf (vk _) jg)) R R) ?_))))
  rintro _ _ ⟨v18,rfl,rfl⟩
  refine At.freeze 0 51 R R ?_
  replace hF:=W.vq hF
  refine At.f R (jo R R (jq R en_27 (jf (vk _) (jf (ja R) jg))) [] R (qi.ok hF)) ?_
  rintro _ _ ⟨_,_,⟨r17,hF,rfl,rfl⟩,rfl,rfl⟩
  refine At.f R (vc R R R (os:=[.tmp 52]) R sl_22 (xs:=([r17]:List Object)) (jf (ja R) jg) R R) ?_
  rintro _ _ ⟨v19,rfl,rfl⟩
  refine At.freeze 0 53 R R ?_
  replace hF:=W.vq hF
  refine At.f R (jo R R (jq R en_28 (jf (ja R) jg)) [] R (qr.ok hF)) ?_
  rintro _ _ ⟨_,_,⟨r18,hF,rfl,rfl⟩,rfl,rfl⟩
  refine At.d R R R R (vd (jr (ji _ _) (jr (ji _ _) js)) zr_37 bd_37 R (fills_cons R Vx (fills_cons R qn fills_nil))) ?_
  refine At.d R R R R (vd (jr (ji _ _) js) zr_37 bd_37 R (fills_cons R Vx fills_nil)) ?_
  refine At.d R R R R (vd (jr (ja R) (jr (ja R) js)) zr_39 bd_39 R (fills_cons R Jf (fills_cons R Jg fills_nil))) ?_
  replace hF:=W.vq hF
  refine At.f R (jn R R jp (jq R en_18 (jf (ja R) (jf (ja R) jg))) (wt.ok hF) (by rintro _ _ ⟨r,_,rfl,_⟩;exact vp)) ?_
  rintro _ _ ⟨_,_,⟨r19,hF,rfl,rfl⟩,rfl,rfl⟩
  refine At.d R R R R (jd (x:=(.tv kBool r19)) (ja R)) ?_
  refine At.done (At.vl ?_)
  refine At.cut (fun rs L=>∃ (t1:Bool),yk.c1 t1 Q∧rs=[]∧L=mkL [(0,(.tv kBool t1))]) ?_ ?_
  ·refine At.region (At.d R R R R (jb (x:=(.eq v4)) (ja R)) ?_)
   obtain ⟨hq7,hF⟩:=hF
   refine At.d R R R R (does_idx_row (ja R) 15 R (ji _ _) Tryz.underlying33 ty_43 hq7) ?_
   refine At.d R R R R (does_field_elem (ja R) fa_43_2) ?_
   obtain ⟨hq8,hF⟩:=hF
   refine At.d R R R R (Jh (ja R) 15 R (0:Int) 2 R zViolation hq8 ja0 ty_41) ?_
   refine At.f R (vc R R R (os:=[.const (.string (⟨#[118]⟩:BA)),.const (.string (⟨#[119]⟩:BA))]) R sl_41 (xs:=([(⟨#[118]⟩:BA),(⟨#[119]⟩:BA)]:List BA)) (jf (vk _) (jf (vk _) jg)) R R) ?_
   rintro _ _ ⟨v24,rfl,rfl⟩
   replace hF:=W.vq hF
   refine At.f R (jn R R (lends_row 0 63 R R jp) (jq R en_29 (jf (ja R) (jf (ja R) jg))) (ja7.ok hF) (by rintro _ _ ⟨r,_,rfl,_⟩;exact vp)) ?_
   rintro _ _ ⟨_,_,⟨r25,hF,rfl,rfl⟩,rfl,rfl⟩
   refine At.d R R R R (jb (x:=(.tv kBool r25)) (ja R)) ?_
   refine At.vn R R R R (jw R) R (fun hg22=>(jb (x:=(.eq v4)) (ja R))) ?_
   obtain ⟨hq9,hF⟩:=hF
   refine At.vn R R R R (jw R) R (fun hg23=>(does_idx_row (jh R hg23) 16 R (ji _ _) Tryz.underlying33 ty_43 (hq9 hg23))) ?_
   refine At.vn R R R R (jw R) R (fun hg24=>(does_field_elem (jh R hg24) fa_43_1)) ?_
   obtain ⟨hq10,hF⟩:=hF
   refine At.vn R R R R (jw R) R (fun hg25=>(Jh (jh R hg25) 16 R (0:Int) 1 R zViolation (hq10 hg25) sub_Violation_1 ty_3)) ?_
   refine At.vn R R R R (jw R) R (fun hg26=>(jk (jh R hg26) (ji _ _) bin_eql)) ?_
   refine At.d R R R R (jm (ja R) (ja R) (jl _) vh) ?_
   refine At.d R R R R (jb (x:=(.tv kBool (r25&&(((rd zViolation r4 (0:Int)).Kind)==(2:Int))))) (ja R)) ?_
   refine At.vn R R R R (jw R) R (fun hg27=>(jb (x:=(.eq v8)) (ja R))) ?_
   refine At.vn R R R R (jw R) R (fun hg28=>(does_len_row (jh R hg28) 12 R Tryz.underlying33)) ?_
   refine At.vn R R R R (jw R) R (fun hg29=>(jk (jh R hg29) (ji _ _) bin_eql)) ?_
   refine At.d R R R R (jm (ja R) (ja R) (jl _) vh) ?_
   refine At.d R R R R (jb (x:=(.tv kBool ((r25&&(((rd zViolation r4 (0:Int)).Kind)==(2:Int)))&&((r8.length:Int)==(0:Int))))) (ja R)) ?_
   refine At.vn R R R R (jw R) R (fun hg30=>(jb (x:=(.eq v12)) (ja R))) ?_
   refine At.vn R R R R (jw R) R (fun hg31=>(does_len_row (jh R hg31) 8 R Tryz.underlying33)) ?_
   refine At.vn R R R R (jw R) R (fun hg32=>(jk (jh R hg32) (ji _ _) bin_eql)) ?_
   refine At.d R R R R (jm (ja R) (ja R) (jl _) vh) ?_
   refine At.d R R R R (jb (x:=(.tv kBool (((r25&&(((rd zViolation r4 (0:Int)).Kind)==(2:Int)))&&((r8.length:Int)==(0:Int)))&&((r12.length:Int)==(0:Int))))) (ja R)) ?_
   refine At.vn R R R R (jw R) R (fun hg33=>(jb (x:=(.eq v17)) (ja R))) ?_
   obtain ⟨hq11,hF⟩:=hF
   refine At.vn R R R R (jw R) R (fun hg34=>(does_idx_row (jh R hg34) 4 R (ji _ _) Tryz.underlying28 ty_41 (hq11 hg34))) ?_
   obtain ⟨hq12,hF⟩:=hF
   refine At.vn R R R R (jw R) R (fun hg35=>(Jh (jh R hg35) 4 R (0:Int) 0 R ([]:List BA) (hq12 hg35) (Sub.self (kSlice kStr)) ty_41)) ?_
   refine At.split (((r25&&(((rd zViolation r4 (0:Int)).Kind)==(2:Int)))&&((r8.length:Int)==(0:Int)))&&((r12.length:Int)==(0:Int))) (fun hb4=>?_) (fun hb4=>?_)
   ·replace hF:=W.ite_t hb4 hF
    refine At.whenT 66 R (and_l (and_l (and_l hb4))) ?_
    refine At.whenT 67 R (and_l (and_l (and_l hb4))) ?_
    refine At.whenT 68 R (and_l (and_l (and_l hb4))) ?_
    refine At.whenT 69 R (and_l (and_l (and_l hb4))) ?_
    refine At.whenT 70 R (and_l (and_l (and_l hb4))) ?_
    refine At.whenT 73 R (and_l (and_l hb4)) ?_
    refine At.whenT 74 R (and_l (and_l hb4)) ?_
    refine At.whenT 75 R (and_l (and_l hb4)) ?_
    refine At.whenT 78 R (and_l hb4) ?_
    refine At.whenT 79 R (and_l hb4) ?_
    refine At.whenT 80 R (and_l hb4) ?_
    refine At.whenT 83 R hb4 ?_
    refine At.whenT 84 R hb4 ?_
    refine At.whenT 85 R hb4 ?_
    refine At.effT R R (jw R) hb4 (vc R R R (os:=[.const (.string (⟨#[118]⟩:BA)),.const (.string (⟨#[119]⟩:BA))]) R sl_41 (xs:=([(⟨#[118]⟩:BA),(⟨#[119]⟩:BA)]:List BA)) (jf (vk _) (jf (vk _) jg)) R R) ?_
    rintro _ _ ⟨v25,rfl,rfl⟩
    replace hF:=W.vq hF
    refine At.effT R R (jw R) hb4 (jn R R (lends_row 0 86 R R jp) (jq R en_29 (jf (ja R) (jf (ja R) jg))) (ja7.ok hF) (by rintro _ _ ⟨r,_,rfl,_⟩;exact vp)) ?_
    rintro _ _ ⟨_,_,⟨r26,hF,rfl,rfl⟩,rfl,rfl⟩
    refine At.d R R R R (does_pickT (ja R) hb4 (ja R)) ?_
    refine At.d R R R R (jb (x:=(.tv kBool r26)) (ja R)) ?_
    refine At.vn R R R R (jw R) R (fun hg36=>(jb (x:=(.tv kBool r19)) (ja R))) ?_
    refine At.d R R R R (jm (ja R) (ja R) (jl _) vh) ?_
    refine At.d R R R R (jb (x:=(.tv kBool (r26&&r19))) (ja R)) ?_
    refine At.split (r26&&r19) (fun hb5=>?_) (fun hb5=>?_)
    ·replace hF:=W.ite_t hb5 hF
     refine At.whenT 90 R (and_l hb5) ?_
     refine At.effT R R (jw R) hb5 (vc R R R (os:=[.const (.string (⟨#[97]⟩:BA)),.const (.string (⟨#[98]⟩:BA))]) R sl_41 (xs:=([(⟨#[97]⟩:BA),(⟨#[98]⟩:BA)]:List BA)) (jf (vk _) (jf (vk _) jg)) R R) ?_
     rintro _ _ ⟨v26,rfl,rfl⟩
     refine At.freeze 0 93 R R ?_
     replace hF:=W.vq hF
     refine At.effT R R (jw R) hb5 (jo R R (jq R en_27 (jf (vk _) (jf (ja R) jg))) [] R (qi.ok hF)) ?_
     rintro _ _ ⟨_,_,⟨r27,hF,rfl,rfl⟩,rfl,rfl⟩
     refine At.effT R R (jw R) hb5 (vc R R R (os:=[.tmp 94]) R sl_22 (xs:=([r27]:List Object)) (jf (ja R) jg) R R) ?_
     rintro _ _ ⟨v27,rfl,rfl⟩
     refine At.freeze 0 95 R R ?_
     replace hF:=W.vq hF
     refine At.effT R R (jw R) hb5 (jo R R (jq R en_28 (jf (ja R) jg)) [] R (qr.ok hF)) ?_
     rintro _ _ ⟨_,_,⟨r28,hF,rfl,rfl⟩,rfl,rfl⟩
     refine At.doesT R R (jw R) hb5 R R R (vd (jr (ji _ _) (jr (ji _ _) js)) zr_37 bd_37 R (fills_cons R Vx (fills_cons R qn fills_nil))) ?_
     refine At.doesT R R (jw R) hb5 R R R (vd (jr (ji _ _) js) zr_37 bd_37 R (fills_cons R Vx fills_nil)) ?_
     refine At.doesT R R (jw R) hb5 R R R (vd (jr (ja R) (jr (ja R) js)) zr_39 bd_39 R (fills_cons R Jf (fills_cons R Jg fills_nil))) ?_
     replace hF:=W.vq hF
     refine At.effT R R (jw R) hb5 (jn R R jp (jq R en_18 (jf (ja R) (jf (ja R) jg))) (wt.ok hF) (by rintro _ _ ⟨r,_,rfl,_⟩;exact vp)) ?_
     rintro _ _ ⟨_,_,⟨r29,hF,rfl,rfl⟩,rfl,rfl⟩
     refine At.doesT R R (jw R) hb5 R R R (ve (ja R)) ?_
     refine At.d R R R R (does_pickT (ja R) hb5 (ja R)) ?_
     refine At.d R R R R (jd (x:=(.tv kBool (!r29))) (ja R)) ?_
     refine At.done (At.vl ?_)
     refine At.w [] R [(0,(.tv kBool (!r29)))] ⟨R,trivial⟩ (At.r ⟨(!r29),hF,R,R⟩)
    ·replace hF:=W.ite_f hb5 hF
     refine At.skipG R R (jw R) hb5 R R ?_
     refine At.skipG R R (jw R) hb5 R R ?_
     refine At.skipG R R (jw R) hb5 R R ?_
     refine At.skipG R R (jw R) hb5 R R ?_
     refine At.skipG R R (jw R) hb5 R R ?_
     refine At.skipG R R (jw R) hb5 R R ?_
     refine At.skipG R R (jw R) hb5 R R ?_
     refine At.skipG R R (jw R) hb5 R R ?_
     refine At.skipG R R (jw R) hb5 R R ?_
     refine At.d R R R R (does_pickF (ja R) hb5 (jl _)) ?_
     refine At.d R R R R (jd (x:=(.tv kBool false)) (ja R)) ?_
     refine At.done (At.vl ?_)
     refine At.w [] R [(0,(.tv kBool false))] ⟨R,trivial⟩ (At.r ⟨false,hF,R,R⟩)
   ·replace hF:=W.ite_f hb4 hF
    refine At.skipG R R (jw R) hb4 R R ?_
    refine At.skipG R R (jw R) hb4 R R ?_
    refine At.d R R R R (does_pickF (ja R) hb4 (jl _)) ?_
    refine At.d R R R R (jb (x:=(.tv kBool false)) (ja R)) ?_
    refine At.skipG R R (jw R) R R R ?_
    refine At.d R R R R (does_pickF (ja R) R (jl _)) ?_
    refine At.d R R R R (jb (x:=(.tv kBool false)) (ja R)) ?_
    refine At.skipG R R (jw R) R R R ?_
    refine At.skipG R R (jw R) R R R ?_
    refine At.skipG R R (jw R) R R R ?_
    refine At.skipG R R (jw R) R R R ?_
    refine At.skipG R R (jw R) R R R ?_
    refine At.skipG R R (jw R) R R R ?_
    refine At.skipG R R (jw R) R R R ?_
    refine At.skipG R R (jw R) R R R ?_
    refine At.skipG R R (jw R) R R R ?_
    refine At.d R R R R (does_pickF (ja R) R (jl _)) ?_
    refine At.d R R R R (jd (x:=(.tv kBool false)) (ja R)) ?_
    refine At.done (At.vl ?_)
    refine At.w [] R [(0,(.tv kBool false))] ⟨R,trivial⟩ (At.r ⟨false,hF,R,R⟩)
  ·rintro _ _ ⟨t1,hF,rfl,rfl⟩
   unfold yk.c1 at hF
   refine At.ret ?_
   exact At.j rfl (rv_tmp rfl) [] rfl ⟨t1,hF,rfl,rfl⟩
def Vp.c3 (x9:(List (BA×BA))):W (List (BA×BA)):=W.ret x9
def Vp.l1 (K3:(List (BA×BA))→W (List (BA×BA))) (A1:(List (BA×BA))→Int→W (List (BA×BA))) (x12:(List (BA×BA))) (i9:Int):W (List (BA×BA)):=W.ite (decide (i9<(x12.length:Int))) (W.req (0≤i9∧i9<(x12.length:Int)) (A1 (x12.set i9.toNat ((sMin ((rd ((⟨#[]⟩:BA),(⟨#[]⟩:BA)) x12 i9).1) ((rd ((⟨#[]⟩:BA),(⟨#[]⟩:BA)) x12 i9).2)),(sMax ((rd ((⟨#[]⟩:BA),(⟨#[]⟩:BA)) x12 i9).1) ((rd ((⟨#[]⟩:BA),(⟨#[]⟩:BA)) x12 i9).2)))) (w64 (i9+(1:Int))))) (K3 x12)
def Vp.c2 (x5:(List (BA×BA))):W (List (BA×BA)):=W.ex fun n=>W.iter2 (Vp.l1 (Vp.c3)) n x5 (0:Int)
def Vp.c1 (o1:Object) (x4:(List (BA×BA))):W (List (BA×BA)):=W.ite (o1.Kind==(3:Int)) (W.req (0≤(w64 ((o1.Refs.length:Int)-(1:Int)))∧(w64 ((o1.Refs.length:Int)-(1:Int)))<(o1.Refs.length:Int)) (W.req (0≤(0:Int)∧(0:Int)<(o1.Refs.length:Int)) (W.req ((x4.length+([((rd (⟨#[]⟩:BA) o1.Refs (w64 ((o1.Refs.length:Int)-(1:Int)))),(rd (⟨#[]⟩:BA) o1.Refs (0:Int)))]:List (BA×BA)).length)*32≤140737488355328∧x4.length+([((rd (⟨#[]⟩:BA) o1.Refs (w64 ((o1.Refs.length:Int)-(1:Int)))),(rd (⟨#[]⟩:BA) o1.Refs (0:Int)))]:List (BA×BA)).length≤140737488355328) ((Vp.c2) (x4++([((rd (⟨#[]⟩:BA) o1.Refs (w64 ((o1.Refs.length:Int)-(1:Int)))),(rd (⟨#[]⟩:BA) o1.Refs (0:Int)))]:List (BA×BA))))))) ((Vp.c2) x4)
def Vp.l2 (o1:Object) (K1:(List (BA×BA))→W (List (BA×BA))) (A2:(List (BA×BA))→Int→W (List (BA×BA))) (x15:(List (BA×BA))) (i12:Int):W (List (BA×BA)):=W.ite (decide ((w64 (i12+(1:Int)))<(o1.Refs.length:Int))) (W.req (0≤i12∧i12<(o1.Refs.length:Int)) (W.req (0≤(w64 (i12+(1:Int)))∧(w64 (i12+(1:Int)))<(o1.Refs.length:Int)) (W.req ((x15.length+([((rd (⟨#[]⟩:BA) o1.Refs i12),(rd (⟨#[]⟩:BA) o1.Refs (w64 (i12+(1:Int)))))]:List (BA×BA)).length)*32≤140737488355328∧x15.length+([((rd (⟨#[]⟩:BA) o1.Refs i12),(rd (⟨#[]⟩:BA) o1.Refs (w64 (i12+(1:Int)))))]:List (BA×BA)).length≤140737488355328) (A2 (x15++([((rd (⟨#[]⟩:BA) o1.Refs i12),(rd (⟨#[]⟩:BA) o1.Refs (w64 (i12+(1:Int)))))]:List (BA×BA))) (w64 (i12+(1:Int))))))) (K1 x15)
def Vp.F (o1:Object):W (List (BA×BA)):=W.ite ((o1.Kind != (2:Int))&&(o1.Kind != (3:Int))) (W.ret ([]:List (BA×BA))) (W.ex fun n=>W.iter2 (Vp.l2 o1 (Vp.c1 o1)) n ([]:List (BA×BA)) (0:Int))
theorem Vp.ok {o1:Object} {Q:(List (BA×BA))→Prop} (hF:Vp.F o1 Q):Con Tryz.prog 51 [.tv kObject o1] [] (fun ta rs'=>∃ (r:(List (BA×BA))) (u0:Value),Q r∧ta=.eq u0∧rs'=[.row u0 50 (kPair kStr kStr) r]):=by
 refine Con.i Tryz.func51 Tryz.ntmps51 R R (fun C=>?_)
 unfold Vp.F at hF
 refine At.seq (At.region (At.f R (jy R R R (ja R)) ?_))
 rintro _ _ ⟨g1,rfl,rfl⟩
 refine At.d R R R R (jd (x:=(.eq (.slice none 0 0))) (opd_eq _)) ?_
 refine At.done (At.vl (At.seq (At.region (At.d R R R R (jd (x:=(.eq (.slice none 0 0))) (opd_eq _)) ?_))))
 refine At.done (At.vl (At.seq (At.seq (At.region (At.d R R R R (je (ja R) yj) ?_)))))
 refine At.d R R R R (jc (ja R) 0 R qa ty_3) ?_
 refine At.d R R R R (jk (ja R) (ji _ _) bin_neq) ?_
 refine At.d R R R R (jb (x:=(.tv kBool (o1.Kind != (2:Int)))) (ja R)) ?_
 refine At.vn R R R R (jw R) R (fun hg1=>(je (ja R) yj)) ?_
 refine At.vn R R R R (jw R) R (fun hg2=>(jc (jh R hg2) 0 R qa ty_3)) ?_
 refine At.vn R R R R (jw R) R (fun hg3=>(jk (jh R hg3) (ji _ _) bin_neq)) ?_
 refine At.d R R R R (jm (ja R) (ja R) (jl _) vh) ?_
 refine At.done (At.vl ?_)
 refine At.cond (ja R) (fun hb1=>?_) (fun hb1=>?_)
 ·replace hF:=W.ite_t hb1 hF
  refine At.seq (At.region (At.d R R R R (jd (x:=(.eq (.slice none 0 0))) (opd_eq _)) ?_))
  refine At.done (At.vl (At.ret (At.vm ?_)))
  refine At.nilrow 50 (kPair kStr kStr) ?_
  exact At.j rfl (rv_tmp rfl) [0] rfl ⟨([]:List (BA×BA)),_,hF,rfl,rfl⟩
 ·replace hF:=W.ite_f hb1 hF
  refine At.skip (At.vl ?_)
  refine At.cut (fun rs L=>∃ (x4:(List (BA×BA))) (v12:Value),Vp.c1 o1 x4 Q∧rs=[.box g1 59 kObject o1,.row v12 50 (kPair kStr kStr) x4]∧L=mkL [(1,(.eq (.pointer (some ⟨g1,0,none⟩)))),(3,(.eq v12))]) ?_ ?_
  ·refine At.seq (At.region (At.d R R R R (jd (x:=(.tv (kInt .i64) (0:Int))) (ji _ _)) ?_))
   refine At.done (At.vl (At.block ?_))
   refine At.nilrow 50 (kPair kStr kStr) ?_
   obtain ⟨n2,hF⟩:=hF
   refine At.w [1,0] R [(1,(.eq (.pointer (some ⟨g1,0,none⟩)))),(3,(.eq (.slice none 0 0))),(4,(.tv (kInt .i64) (0:Int)))] ⟨R,R,R,trivial⟩ ?_
   refine At.loop (fun m rs L=>∃ (x15:(List (BA×BA))) (v32:Value) (i12:Int),W.iter2 (Vp.l2 o1 (Vp.c1 o1)) m x15 i12 Q∧rs=[.box g1 59 kObject o1,.row v32 50 (kPair kStr kStr) x15]∧L=mkL [(1,(.eq (.pointer (some ⟨g1,0,none⟩)))),(3,(.eq v32)),(4,(.tv (kInt .i64) i12))]) ?_ ?_ (m:=n2) ⟨([]:List (BA×BA)),(.slice none 0 0),(0:Int),hF,R,R⟩
   ·rintro rs L ⟨_,_,_,hF,_,_⟩;exact hF
   ·rintro m2 _ _ ⟨x15,v32,i12,hF,rfl,rfl⟩
    replace hF:=W.iter2_s hF
    unfold Vp.l2 at hF
    refine At.seq (At.seq (At.region (At.d R R R R (jb (x:=(.tv (kInt .i64) i12)) (ja R)) ?_)))
    refine At.d R R R R (jk (ja R) (ji _ _) vf) ?_
    refine At.d R R R R (je (ja R) qz) ?_
    refine At.d R R R R (jc (ja R) 0 R Vl ty_41) ?_
    refine At.d R R R R (jt (ja R) Tryz.underlying41) ?_
    refine At.d R R R R (jk (ja R) (ja R) vg) ?_
    refine At.done (At.vl ?_)
    refine At.cond (ja R) (fun hb13=>?_) (fun hb13=>?_)
    ·replace hF:=W.ite_t hb13 hF
     refine At.skip (At.vl (At.seq (At.block ?_)))
     refine At.draw mixed [0,1] R [[],[14]] (fun φ w hgd=>?_)
     obtain ⟨hq24,hF⟩:=hF
     obtain ⟨hq25,hF⟩:=hF
     obtain ⟨hq26,hF⟩:=hF
     refine AtH.take [0,1] hgd 0 R R R R (D':=#[Y,N,N,N,N,N,N,N,N,N,N,N,N,N,N,N]) (by kernel_rfl) (fun _ _ _ _ h=>h) R (jb (x:=(.eq v32)) (ja R)) ?_
     refine AtH.take [0] hgd 1 R R R R (D':=#[Y,Y,N,N,N,N,N,N,N,N,N,N,N,N,N,N]) (by kernel_rfl) (fun _ _ _ _ h=>h) R (je (ja R) qz) ?_
     refine AtH.take [0] hgd 2 R R R R (D':=#[Y,Y,Y,N,N,N,N,N,N,N,N,N,N,N,N,N]) (by kernel_rfl) (fun _ _ _ _ h=>h) R (jc (ja R) 0 R Vl ty_41) ?_
     refine AtH.take [0] hgd 3 R R R R (D':=#[Y,Y,Y,Y,N,N,N,N,N,N,N,N,N,N,N,N]) (by kernel_rfl) (fun _ _ _ _ h=>h) R (jb (x:=(.tv (kInt .i64) i12)) (ja R)) ?_
     refine AtH.take [0] hgd 4 R R R R (D':=#[Y,Y,Y,Y,Y,N,N,N,N,N,N,N,N,N,N,N]) (by kernel_rfl) (fun _ _ _ _ h=>h) R (vj (⟨#[]⟩:BA) (ja R) (ja R) Tryz.underlying41 ty_9 hq24) ?_
     refine AtH.take [0] hgd 5 R R R R (D':=#[Y,Y,Y,Y,Y,Y,N,N,N,N,N,N,N,N,N,N]) (by kernel_rfl) (fun _ _ _ _ h=>h) R (vw (K:=kStr) (ja R) ty_9) ?_
     refine AtH.take [0] hgd 6 R R R R (D':=#[Y,Y,Y,Y,Y,Y,Y,N,N,N,N,N,N,N,N,N]) (by kernel_rfl) (fun _ _ _ _ h=>h) R (je (ja R) qz) ?_
     refine AtH.take [0] hgd 7 R R R R (D':=#[Y,Y,Y,Y,Y,Y,Y,Y,N,N,N,N,N,N,N,N]) (by kernel_rfl) (fun _ _ _ _ h=>h) R (jc (ja R) 0 R Vl ty_41) ?_
     refine AtH.take [0] hgd 8 R R R R (D':=#[Y,Y,Y,Y,Y,Y,Y,Y,Y,N,N,N,N,N,N,N]) (by kernel_rfl) (fun _ _ _ _ h=>h) R (jb (x:=(.tv (kInt .i64) i12)) (ja R)) ?_
     refine AtH.take [0] hgd 9 R R R R (D':=#[Y,Y,Y,Y,Y,Y,Y,Y,Y,Y,N,N,N,N,N,N]) (by kernel_rfl) (fun _ _ _ _ h=>h) R (jk (ja R) (ji _ _) vf) ?_
     refine AtH.take [0] hgd 10 R R R R (D':=#[Y,Y,Y,Y,Y,Y,Y,Y,Y,Y,Y,N,N,N,N,N]) (by kernel_rfl) (fun _ _ _ _ h=>h) R (vj (⟨#[]⟩:BA) (ja R) (ja R) Tryz.underlying41 ty_9 hq25) ?_
     refine AtH.take [0] hgd 11 R R R R (D':=#[Y,Y,Y,Y,Y,Y,Y,Y,Y,Y,Y,Y,N,N,N,N]) (by kernel_rfl) (fun _ _ _ _ h=>h) R (vw (K:=kStr) (ja R) ty_9) ?_
     refine AtH.take [0] hgd 12 R R R R (D':=#[Y,Y,Y,Y,Y,Y,Y,Y,Y,Y,Y,Y,Y,N,N,N]) (by kernel_rfl) (fun _ _ _ _ h=>h) R (vd (jr (ja R) (jr (ja R) js)) zr_50 bd_50 R (fills_cons R yp (fills_cons R yw fills_nil))) ?_
     refine AtH.all1 13 (by kernel_rfl) ?_
     refine AtH.f [(0,0),(1,1)] R R R R R R (vc R R R (os:=[.tmp 34]) R sl_51 (xs:=([((rd (⟨#[]⟩:BA) o1.Refs i12),(rd (⟨#[]⟩:BA) o1.Refs (w64 (i12+(1:Int)))))]:List (BA×BA))) (jf (ja R) jg) R R) (D':=#[Y,Y,Y,Y,Y,Y,Y,Y,Y,Y,Y,Y,Y,Y,N,N]) (by kernel_rfl) (by kernel_rfl) ?_
     rintro _ _ ⟨v35,rfl,rfl⟩
     refine ⟨_,.inr ⟨R,flat_eq⟩,?_⟩
     refine AtH.all1 14 (by kernel_rfl) ?_
     refine AtH.f [(0,1)] R R R R R R (eff_append_row R R R 2 0 R R (ja R) (ja R) sl_51 hq26) (D':=#[Y,Y,Y,Y,Y,Y,Y,Y,Y,Y,Y,Y,Y,Y,Y,N]) (by kernel_rfl) (by kernel_rfl) ?_
     rintro _ _ ⟨v36,rfl,rfl⟩
     refine ⟨_,.inr ⟨R,flat_eq⟩,?_⟩
     refine AtH.take [0] hgd 15 R R R R (D':=#[Y,Y,Y,Y,Y,Y,Y,Y,Y,Y,Y,Y,Y,Y,Y,Y]) (by kernel_rfl) (fun _ _ _ _ h=>h) R (jd (x:=(.eq v36)) (ja R)) ?_
     refine AtH.done (by kernel_rfl) ?_
     refine At.n ?_
     refine At.vl (At.region (At.d R R R R (jb (x:=(.tv (kInt .i64) i12)) (ja R)) ?_))
     refine At.d R R R R (jk (ja R) (ji _ _) vf) ?_
     refine At.d R R R R (jd (x:=(.tv (kInt .i64) (w64 (i12+(1:Int))))) (ja R)) ?_
     refine At.done (At.vl ?_)
     refine At.w [1,2] R [(1,(.eq (.pointer (some ⟨g1,0,none⟩)))),(3,(.eq v36)),(4,(.tv (kInt .i64) (w64 (i12+(1:Int)))))] ⟨R,R,R,trivial⟩ (At.r ⟨(x15++([((rd (⟨#[]⟩:BA) o1.Refs i12),(rd (⟨#[]⟩:BA) o1.Refs (w64 (i12+(1:Int)))))]:List (BA×BA))),v36,(w64 (i12+(1:Int))),hF,R,R⟩)
    ·replace hF:=W.ite_f hb13 hF
     refine At.exit ?_
     refine At.x (At.x ?_)
     refine At.h ?_
     refine At.vl ?_
     refine At.w [0,1] R [(1,(.eq (.pointer (some ⟨g1,0,none⟩)))),(3,(.eq v32))] ⟨R,R,trivial⟩ (At.r ⟨x15,v32,hF,R,R⟩)
  ·rintro _ _ ⟨x4,v12,hF,rfl,rfl⟩
   unfold Vp.c1 at hF
   refine At.cut (fun rs L=>∃ (x5:(List (BA×BA))) (v17:Value),Vp.c2 x5 Q∧rs=[.row v17 50 (kPair kStr kStr) x5]∧L=mkL [(3,(.eq v17))]) ?_ ?_
   ·refine At.seq (At.region (At.d R R R R (je (ja R) yj) ?_))
    refine At.d R R R R (jc (ja R) 0 R qa ty_3) ?_
    refine At.d R R R R (jk (ja R) (ji _ _) bin_eql) ?_
    refine At.done (At.vl ?_)
    refine At.cond (ja R) (fun hb10=>?_) (fun hb10=>?_)
    ·replace hF:=W.ite_t hb10 hF
     refine At.draw mixed [0,1] R [[],[15]] (fun φ w hgd=>?_)
     obtain ⟨hq15,hF⟩:=hF
     obtain ⟨hq16,hF⟩:=hF
     obtain ⟨hq17,hF⟩:=hF
     refine AtH.take [0,1] hgd 0 R R R R (D':=#[Y,N,N,N,N,N,N,N,N,N,N,N,N,N,N,N,N]) (by kernel_rfl) (fun _ _ _ _ h=>h) R (jb (x:=(.eq v12)) (ja R)) ?_
     refine AtH.take [0] hgd 1 R R R R (D':=#[Y,Y,N,N,N,N,N,N,N,N,N,N,N,N,N,N,N]) (by kernel_rfl) (fun _ _ _ _ h=>h) R (je (ja R) qz) ?_
     refine AtH.take [0] hgd 2 R R R R (D':=#[Y,Y,Y,N,N,N,N,N,N,N,N,N,N,N,N,N,N]) (by kernel_rfl) (fun _ _ _ _ h=>h) R (jc (ja R) 0 R Vl ty_41) ?_
     refine AtH.take [0] hgd 3 R R R R (D':=#[Y,Y,Y,Y,N,N,N,N,N,N,N,N,N,N,N,N,N]) (by kernel_rfl) (fun _ _ _ _ h=>h) R (je (ja R) qz) ?_
     refine AtH.take [0] hgd 4 R R R R (D':=#[Y,Y,Y,Y,Y,N,N,N,N,N,N,N,N,N,N,N,N]) (by kernel_rfl) (fun _ _ _ _ h=>h) R (jc (ja R) 0 R Vl ty_41) ?_
     refine AtH.take [0] hgd 5 R R R R (D':=#[Y,Y,Y,Y,Y,Y,N,N,N,N,N,N,N,N,N,N,N]) (by kernel_rfl) (fun _ _ _ _ h=>h) R (jt (ja R) Tryz.underlying41) ?_
     refine AtH.take [0] hgd 6 R R R R (D':=#[Y,Y,Y,Y,Y,Y,Y,N,N,N,N,N,N,N,N,N,N]) (by kernel_rfl) (fun _ _ _ _ h=>h) R (jk (ja R) (ji _ _) bin_sub) ?_
     refine AtH.take [0] hgd 7 R R R R (D':=#[Y,Y,Y,Y,Y,Y,Y,Y,N,N,N,N,N,N,N,N,N]) (by kernel_rfl) (fun _ _ _ _ h=>h) R (vj (⟨#[]⟩:BA) (ja R) (ja R) Tryz.underlying41 ty_9 hq15) ?_
     refine AtH.take [0] hgd 8 R R R R (D':=#[Y,Y,Y,Y,Y,Y,Y,Y,Y,N,N,N,N,N,N,N,N]) (by kernel_rfl) (fun _ _ _ _ h=>h) R (vw (K:=kStr) (ja R) ty_9) ?_
     refine AtH.take [0] hgd 9 R R R R (D':=#[Y,Y,Y,Y,Y,Y,Y,Y,Y,Y,N,N,N,N,N,N,N]) (by kernel_rfl) (fun _ _ _ _ h=>h) R (je (ja R) qz) ?_
     refine AtH.take [0] hgd 10 R R R R (D':=#[Y,Y,Y,Y,Y,Y,Y,Y,Y,Y,Y,N,N,N,N,N,N]) (by kernel_rfl) (fun _ _ _ _ h=>h) R (jc (ja R) 0 R Vl ty_41) ?_
     refine AtH.take [0] hgd 11 R R R R (D':=#[Y,Y,Y,Y,Y,Y,Y,Y,Y,Y,Y,Y,N,N,N,N,N]) (by kernel_rfl) (fun _ _ _ _ h=>h) R (vj (⟨#[]⟩:BA) (ja R) (ji _ _) Tryz.underlying41 ty_9 hq16) ?_
     refine AtH.take [0] hgd 12 R R R R (D':=#[Y,Y,Y,Y,Y,Y,Y,Y,Y,Y,Y,Y,Y,N,N,N,N]) (by kernel_rfl) (fun _ _ _ _ h=>h) R (vw (K:=kStr) (ja R) ty_9) ?_
     refine AtH.take [0] hgd 13 R R R R (D':=#[Y,Y,Y,Y,Y,Y,Y,Y,Y,Y,Y,Y,Y,Y,N,N,N]) (by kernel_rfl) (fun _ _ _ _ h=>h) R (vd (jr (ja R) (jr (ja R) js)) zr_50 bd_50 R (fills_cons R yp (fills_cons R yw fills_nil))) ?_
     refine AtH.all1 14 (by kernel_rfl) ?_
     refine AtH.f [(0,0),(1,1)] R R R R R R (vc R R R (os:=[.tmp 53]) R sl_51 (xs:=([((rd (⟨#[]⟩:BA) o1.Refs (w64 ((o1.Refs.length:Int)-(1:Int)))),(rd (⟨#[]⟩:BA) o1.Refs (0:Int)))]:List (BA×BA))) (jf (ja R) jg) R R) (D':=#[Y,Y,Y,Y,Y,Y,Y,Y,Y,Y,Y,Y,Y,Y,Y,N,N]) (by kernel_rfl) (by kernel_rfl) ?_
     rintro _ _ ⟨v20,rfl,rfl⟩
     refine ⟨_,.inr ⟨R,flat_eq⟩,?_⟩
     refine AtH.all1 15 (by kernel_rfl) ?_
     refine AtH.f [(0,1)] R R R R R R (eff_append_row R R R 2 0 R R (ja R) (ja R) sl_51 hq17) (D':=#[Y,Y,Y,Y,Y,Y,Y,Y,Y,Y,Y,Y,Y,Y,Y,Y,N]) (by kernel_rfl) (by kernel_rfl) ?_
     rintro _ _ ⟨v21,rfl,rfl⟩
     refine ⟨_,.inr ⟨R,flat_eq⟩,?_⟩
     refine AtH.take [0] hgd 16 R R R R (D':=#[Y,Y,Y,Y,Y,Y,Y,Y,Y,Y,Y,Y,Y,Y,Y,Y,Y]) (by kernel_rfl) (fun _ _ _ _ h=>h) R (jd (x:=(.eq v21)) (ja R)) ?_
     refine AtH.done (by kernel_rfl) ?_
     refine At.vl ?_
     refine At.w [2] R [(3,(.eq v21))] ⟨R,trivial⟩ (At.r ⟨(x4++([((rd (⟨#[]⟩:BA) o1.Refs (w64 ((o1.Refs.length:Int)-(1:Int)))),(rd (⟨#[]⟩:BA) o1.Refs (0:Int)))]:List (BA×BA))),v21,hF,R,R⟩)
    ·replace hF:=W.ite_f hb10 hF
     refine At.skip (At.vl ?_)
     refine At.w [1] R [(3,(.eq v12))] ⟨R,trivial⟩ (At.r ⟨x4,v12,hF,R,R⟩)
   ·rintro _ _ ⟨x5,v17,hF,rfl,rfl⟩
    unfold Vp.c2 at hF
    refine At.cut (fun rs L=>∃ (x9:(List (BA×BA))),Vp.c3 x9 Q∧rs=[.row v17 50 (kPair kStr kStr) x9]∧L=mkL [(3,(.eq v17))]) ?_ ?_
    ·refine At.seq (At.region (At.d R R R R (jd (x:=(.tv (kInt .i64) (0:Int))) (ji _ _)) ?_))
     refine At.done (At.vl (At.block ?_))
     obtain ⟨n1,hF⟩:=hF
     refine At.w [0] R [(3,(.eq v17)),(5,(.tv (kInt .i64) (0:Int)))] ⟨R,R,trivial⟩ ?_
     refine At.loop (fun m rs L=>∃ (x12:(List (BA×BA))) (i9:Int),W.iter2 (Vp.l1 (Vp.c3)) m x12 i9 Q∧rs=[.row v17 50 (kPair kStr kStr) x12]∧L=mkL [(3,(.eq v17)),(5,(.tv (kInt .i64) i9))]) ?_ ?_ (m:=n1) ⟨x5,(0:Int),hF,R,R⟩
     ·rintro rs L ⟨_,_,hF,_,_⟩;exact hF
     ·rintro m1 _ _ ⟨x12,i9,hF,rfl,rfl⟩
      replace hF:=W.iter2_s hF
      unfold Vp.l1 at hF
      refine At.seq (At.seq (At.region (At.d R R R R (jb (x:=(.tv (kInt .i64) i9)) (ja R)) ?_)))
      refine At.d R R R R (jb (x:=(.eq v17)) (ja R)) ?_
      refine At.d R R R R (does_len_row (ja R) 0 R Tryz.underlying51) ?_
      refine At.d R R R R (jk (ja R) (ja R) vg) ?_
      refine At.done (At.vl ?_)
      refine At.cond (ja R) (fun hb9=>?_) (fun hb9=>?_)
      ·replace hF:=W.ite_t hb9 hF
       refine At.skip (At.vl (At.seq (At.block ?_)))
       refine At.draw mixed [0] R [[26]] (fun φ w hgd=>?_)
       obtain ⟨hq14,hF⟩:=hF
       refine AtH.take [0] hgd 0 R R R R (D':=#[Y,N,N,N,N,N,N,N,N,N,N,N,N,N,N,N,N,N,N,N,N,N,N,N,N,N,N]) (by kernel_rfl) (fun _ _ _ _ h=>h) R (jb (x:=(.eq v17)) (ja R)) ?_
       refine AtH.take [0] hgd 1 R R R R (D':=#[Y,Y,N,N,N,N,N,N,N,N,N,N,N,N,N,N,N,N,N,N,N,N,N,N,N,N,N]) (by kernel_rfl) (fun _ _ _ _ h=>h) R (jb (x:=(.tv (kInt .i64) i9)) (ja R)) ?_
       refine AtH.take [0] hgd 2 R R R R (D':=#[Y,Y,Y,N,N,N,N,N,N,N,N,N,N,N,N,N,N,N,N,N,N,N,N,N,N,N,N]) (by kernel_rfl) (fun _ _ _ _ h=>h) R (jb (x:=(.eq v17)) (ja R)) ?_
       refine AtH.take [0] hgd 3 R R R R (D':=#[Y,Y,Y,Y,N,N,N,N,N,N,N,N,N,N,N,N,N,N,N,N,N,N,N,N,N,N,N]) (by kernel_rfl) (fun _ _ _ _ h=>h) R (jb (x:=(.tv (kInt .i64) i9)) (ja R)) ?_
       refine AtH.take [0] hgd 4 R R R R (D':=#[Y,Y,Y,Y,Y,N,N,N,N,N,N,N,N,N,N,N,N,N,N,N,N,N,N,N,N,N,N]) (by kernel_rfl) (fun _ _ _ _ h=>h) R (does_idx_row (ja R) 0 R (ja R) Tryz.underlying51 ty_50 hq14) ?_
       refine AtH.take [0] hgd 5 R R R R (D':=#[Y,Y,Y,Y,Y,Y,N,N,N,N,N,N,N,N,N,N,N,N,N,N,N,N,N,N,N,N,N]) (by kernel_rfl) (fun _ _ _ _ h=>h) R (does_aidx_elem (ja R) (ji _ _) jb2) ?_
       refine AtH.take [0] hgd 6 R R R R (D':=#[Y,Y,Y,Y,Y,Y,Y,N,N,N,N,N,N,N,N,N,N,N,N,N,N,N,N,N,N,N,N]) (by kernel_rfl) (fun _ _ _ _ h=>h) R (Jh (ja R) 0 R i9 0 R ((⟨#[]⟩:BA),(⟨#[]⟩:BA)) hq14 yp ty_9) ?_
       refine AtH.take [0] hgd 7 R R R R (D':=#[Y,Y,Y,Y,Y,Y,Y,Y,N,N,N,N,N,N,N,N,N,N,N,N,N,N,N,N,N,N,N]) (by kernel_rfl) (fun _ _ _ _ h=>h) R (jb (x:=(.eq v17)) (ja R)) ?_
       refine AtH.take [0] hgd 8 R R R R (D':=#[Y,Y,Y,Y,Y,Y,Y,Y,Y,N,N,N,N,N,N,N,N,N,N,N,N,N,N,N,N,N,N]) (by kernel_rfl) (fun _ _ _ _ h=>h) R (jb (x:=(.tv (kInt .i64) i9)) (ja R)) ?_
       refine AtH.take [0] hgd 9 R R R R (D':=#[Y,Y,Y,Y,Y,Y,Y,Y,Y,Y,N,N,N,N,N,N,N,N,N,N,N,N,N,N,N,N,N]) (by kernel_rfl) (fun _ _ _ _ h=>h) R (does_idx_row (ja R) 0 R (ja R) Tryz.underlying51 ty_50 hq14) ?_
       refine AtH.take [0] hgd 10 R R R R (D':=#[Y,Y,Y,Y,Y,Y,Y,Y,Y,Y,Y,N,N,N,N,N,N,N,N,N,N,N,N,N,N,N,N]) (by kernel_rfl) (fun _ _ _ _ h=>h) R (does_aidx_elem (ja R) (ji _ _) ia_50_1) ?_
       refine AtH.take [0] hgd 11 R R R R (D':=#[Y,Y,Y,Y,Y,Y,Y,Y,Y,Y,Y,Y,N,N,N,N,N,N,N,N,N,N,N,N,N,N,N]) (by kernel_rfl) (fun _ _ _ _ h=>h) R (Jh (ja R) 0 R i9 1 R ((⟨#[]⟩:BA),(⟨#[]⟩:BA)) hq14 yw ty_9) ?_
       refine AtH.take [0] hgd 12 R R R R (D':=#[Y,Y,Y,Y,Y,Y,Y,Y,Y,Y,Y,Y,Y,N,N,N,N,N,N,N,N,N,N,N,N,N,N]) (by kernel_rfl) (fun _ _ _ _ h=>h) R (does_smin (ja R) (ja R)) ?_
       refine AtH.take [0] hgd 13 R R R R (D':=#[Y,Y,Y,Y,Y,Y,Y,Y,Y,Y,Y,Y,Y,Y,N,N,N,N,N,N,N,N,N,N,N,N,N]) (by kernel_rfl) (fun _ _ _ _ h=>h) R (jb (x:=(.eq v17)) (ja R)) ?_
       refine AtH.take [0] hgd 14 R R R R (D':=#[Y,Y,Y,Y,Y,Y,Y,Y,Y,Y,Y,Y,Y,Y,Y,N,N,N,N,N,N,N,N,N,N,N,N]) (by kernel_rfl) (fun _ _ _ _ h=>h) R (jb (x:=(.tv (kInt .i64) i9)) (ja R)) ?_
       refine AtH.take [0] hgd 15 R R R R (D':=#[Y,Y,Y,Y,Y,Y,Y,Y,Y,Y,Y,Y,Y,Y,Y,Y,N,N,N,N,N,N,N,N,N,N,N]) (by kernel_rfl) (fun _ _ _ _ h=>h) R (does_idx_row (ja R) 0 R (ja R) Tryz.underlying51 ty_50 hq14) ?_
       refine AtH.take [0] hgd 16 R R R R (D':=#[Y,Y,Y,Y,Y,Y,Y,Y,Y,Y,Y,Y,Y,Y,Y,Y,Y,N,N,N,N,N,N,N,N,N,N]) (by kernel_rfl) (fun _ _ _ _ h=>h) R (does_aidx_elem (ja R) (ji _ _) jb2) ?_
       refine AtH.take [0] hgd 17 R R R R (D':=#[Y,Y,Y,Y,Y,Y,Y,Y,Y,Y,Y,Y,Y,Y,Y,Y,Y,Y,N,N,N,N,N,N,N,N,N]) (by kernel_rfl) (fun _ _ _ _ h=>h) R (Jh (ja R) 0 R i9 0 R ((⟨#[]⟩:BA),(⟨#[]⟩:BA)) hq14 yp ty_9) ?_
       refine AtH.take [0] hgd 18 R R R R (D':=#[Y,Y,Y,Y,Y,Y,Y,Y,Y,Y,Y,Y,Y,Y,Y,Y,Y,Y,Y,N,N,N,N,N,N,N,N]) (by kernel_rfl) (fun _ _ _ _ h=>h) R (jb (x:=(.eq v17)) (ja R)) ?_
       refine AtH.take [0] hgd 19 R R R R (D':=#[Y,Y,Y,Y,Y,Y,Y,Y,Y,Y,Y,Y,Y,Y,Y,Y,Y,Y,Y,Y,N,N,N,N,N,N,N]) (by kernel_rfl) (fun _ _ _ _ h=>h) R (jb (x:=(.tv (kInt .i64) i9)) (ja R)) ?_
       refine AtH.take [0] hgd 20 R R R R (D':=#[Y,Y,Y,Y,Y,Y,Y,Y,Y,Y,Y,Y,Y,Y,Y,Y,Y,Y,Y,Y,Y,N,N,N,N,N,N]) (by kernel_rfl) (fun _ _ _ _ h=>h) R (does_idx_row (ja R) 0 R (ja R) Tryz.underlying51 ty_50 hq14) ?_
       refine AtH.take [0] hgd 21 R R R R (D':=#[Y,Y,Y,Y,Y,Y,Y,Y,Y,Y,Y,Y,Y,Y,Y,Y,Y,Y,Y,Y,Y,Y,N,N,N,N,N]) (by kernel_rfl) (fun _ _ _ _ h=>h) R (does_aidx_elem (ja R) (ji _ _) ia_50_1) ?_
       refine AtH.take [0] hgd 22 R R R R (D':=#[Y,Y,Y,Y,Y,Y,Y,Y,Y,Y,Y,Y,Y,Y,Y,Y,Y,Y,Y,Y,Y,Y,Y,N,N,N,N]) (by kernel_rfl) (fun _ _ _ _ h=>h) R (Jh (ja R) 0 R i9 1 R ((⟨#[]⟩:BA),(⟨#[]⟩:BA)) hq14 yw ty_9) ?_
       refine AtH.take [0] hgd 23 R R R R (D':=#[Y,Y,Y,Y,Y,Y,Y,Y,Y,Y,Y,Y,Y,Y,Y,Y,Y,Y,Y,Y,Y,Y,Y,Y,N,N,N]) (by kernel_rfl) (fun _ _ _ _ h=>h) R (does_smax (ja R) (ja R)) ?_
       refine AtH.take [0] hgd 24 R R R R (D':=#[Y,Y,Y,Y,Y,Y,Y,Y,Y,Y,Y,Y,Y,Y,Y,Y,Y,Y,Y,Y,Y,Y,Y,Y,Y,N,N]) (by kernel_rfl) (fun _ _ _ _ h=>h) R (vd (jr (ja R) (jr (ja R) js)) zr_50 bd_50 R (fills_cons R yp (fills_cons R yw fills_nil))) ?_
       refine AtH.take [0] hgd 25 R R R R (D':=#[Y,Y,Y,Y,Y,Y,Y,Y,Y,Y,Y,Y,Y,Y,Y,Y,Y,Y,Y,Y,Y,Y,Y,Y,Y,Y,N]) (by kernel_rfl) (fun _ _ _ _ h=>h) R (does_idx_row (ja R) 0 R (ja R) Tryz.underlying51 ty_50 hq14) ?_
       refine AtH.all1 26 (by kernel_rfl) ?_
       refine AtH.eff0 [] R R R R R (eff_store_elem R R (ja R) 0 R i9 0 R ((⟨#[]⟩:BA),(⟨#[]⟩:BA)) hq14 (Sub.self (kPair kStr kStr)) ty_50 (ja R)) (D':=#[Y,Y,Y,Y,Y,Y,Y,Y,Y,Y,Y,Y,Y,Y,Y,Y,Y,Y,Y,Y,Y,Y,Y,Y,Y,Y,Y]) (by kernel_rfl) (by kernel_rfl) ?_
       rintro _ _ ⟨rfl,rfl⟩
       refine AtH.done (by kernel_rfl) ?_
       refine At.n ?_
       refine At.vl (At.region (At.d R R R R (jb (x:=(.tv (kInt .i64) i9)) (ja R)) ?_))
       refine At.d R R R R (jk (ja R) (ji _ _) vf) ?_
       refine At.d R R R R (jd (x:=(.tv (kInt .i64) (w64 (i9+(1:Int))))) (ja R)) ?_
       refine At.done (At.vl ?_)
       refine At.w [0] R [(3,(.eq v17)),(5,(.tv (kInt .i64) (w64 (i9+(1:Int)))))] ⟨R,R,trivial⟩ (At.r ⟨(x12.set i9.toNat ((sMin ((rd ((⟨#[]⟩:BA),(⟨#[]⟩:BA)) x12 i9).1) ((rd ((⟨#[]⟩:BA),(⟨#[]⟩:BA)) x12 i9).2)),(sMax ((rd ((⟨#[]⟩:BA),(⟨#[]⟩:BA)) x12 i9).1) ((rd ((⟨#[]⟩:BA),(⟨#[]⟩:BA)) x12 i9).2)))),(w64 (i9+(1:Int))),hF,R,R⟩)
      ·replace hF:=W.ite_f hb9 hF
       refine At.exit ?_
       refine At.x (At.x ?_)
       refine At.h ?_
       refine At.vl ?_
       refine At.w [0] R [(3,(.eq v17))] ⟨R,trivial⟩ (At.r ⟨x12,hF,R,R⟩)
    ·rintro _ _ ⟨x9,hF,rfl,rfl⟩
     unfold Vp.c3 at hF
     refine At.seq (At.region (At.d R R R R (jb (x:=(.eq v17)) (ja R)) ?_))
     refine At.d R R R R (jd (x:=(.eq v17)) (ja R)) ?_
     refine At.done (At.vl (At.ret ?_))
     exact At.j rfl (rv_tmp rfl) [0] rfl ⟨x9,_,hF,rfl,rfl⟩
def qo.c1 (m1:Map) (id1:BA) (from4:Int):W Int:=W.req ((decide (from4<(m1.Objects.length:Int)))=true→0≤from4∧from4<(m1.Objects.length:Int)) (W.ite ((decide (from4<(m1.Objects.length:Int)))&&(sEq ((rd zObject m1.Objects from4).Id) id1)) (W.ret from4) (W.ret (-1:Int)))
def qo.l1 (m1:Map) (id1:BA) (K1:Int→W Int) (A1:Int→Int→W Int) (from7:Int) (to6:Int):W Int:=W.ite (decide (from7<to6)) (W.req (0≤(w64 (Int.tdiv (w64 (from7+to6)) (2:Int)))∧(w64 (Int.tdiv (w64 (from7+to6)) (2:Int)))<(m1.Objects.length:Int)) (W.ite (sLt ((rd zObject m1.Objects (w64 (Int.tdiv (w64 (from7+to6)) (2:Int)))).Id) id1) (A1 (w64 ((w64 (Int.tdiv (w64 (from7+to6)) (2:Int)))+(1:Int))) to6) (A1 from7 (w64 (Int.tdiv (w64 (from7+to6)) (2:Int)))))) (K1 from7)
def qo.F (m1:Map) (id1:BA):W Int:=W.ex fun n=>W.iter2 (qo.l1 m1 id1 (qo.c1 m1 id1)) n (0:Int) (m1.Objects.length:Int)
theorem qo.ok {m1:Map} {id1:BA} {Q:Int→Prop} (hF:qo.F m1 id1 Q):Con Tryz.prog 87 [.tv kMap m1,.tv kStr id1] [] (fun ta rs'=>∃ (r:Int),Q r∧ta=.tv (kInt .i64) r∧rs'=[]):=by
 refine Con.i Tryz.func87 Tryz.ntmps87 R R (fun C=>?_)
 unfold qo.F at hF
 refine At.seq (At.region (At.f R (jy R R R (ja R)) ?_))
 rintro _ _ ⟨g1,rfl,rfl⟩
 refine At.d R R R R (jd (x:=(.tv (kInt .i64) (0:Int))) (ji _ _)) ?_
 refine At.done (At.vl (At.seq (At.region (At.d R R R R (jd (x:=(.tv (kInt .i64) (0:Int))) (ji _ _)) ?_))))
 refine At.done (At.vl (At.seq (At.region (At.d R R R R (je (ja R) qq) ?_))))
 refine At.d R R R R (jc (ja R) 0 R qc ty_22) ?_
 refine At.d R R R R (jt (ja R) Tryz.underlying22) ?_
 refine At.d R R R R (jd (x:=(.tv (kInt .i64) (m1.Objects.length:Int))) (ja R)) ?_
 refine At.done (At.vl ?_)
 refine At.cut (fun rs L=>∃ (from4:Int),qo.c1 m1 id1 from4 Q∧rs=[.box g1 24 kMap m1]∧L=mkL [(1,(.tv kStr id1)),(2,(.eq (.pointer (some ⟨g1,0,none⟩)))),(5,(.tv (kInt .i64) from4))]) ?_ ?_
 ·refine At.block ?_
  obtain ⟨n1,hF⟩:=hF
  refine At.w [0] R [(1,(.tv kStr id1)),(2,(.eq (.pointer (some ⟨g1,0,none⟩)))),(5,(.tv (kInt .i64) (0:Int))),(6,(.tv (kInt .i64) (m1.Objects.length:Int)))] ⟨R,R,R,R,trivial⟩ ?_
  refine At.loop (fun m rs L=>∃ (from7:Int) (to6:Int),W.iter2 (qo.l1 m1 id1 (qo.c1 m1 id1)) m from7 to6 Q∧rs=[.box g1 24 kMap m1]∧L=mkL [(1,(.tv kStr id1)),(2,(.eq (.pointer (some ⟨g1,0,none⟩)))),(5,(.tv (kInt .i64) from7)),(6,(.tv (kInt .i64) to6))]) ?_ ?_ (m:=n1) ⟨(0:Int),(m1.Objects.length:Int),hF,R,R⟩
  ·rintro rs L ⟨_,_,hF,_,_⟩;exact hF
  ·rintro m2 _ _ ⟨from7,to6,hF,rfl,rfl⟩
   replace hF:=W.iter2_s hF
   unfold qo.l1 at hF
   refine At.seq (At.seq (At.region (At.d R R R R (jb (x:=(.tv (kInt .i64) from7)) (ja R)) ?_)))
   refine At.d R R R R (jb (x:=(.tv (kInt .i64) to6)) (ja R)) ?_
   refine At.d R R R R (jk (ja R) (ja R) vg) ?_
   refine At.done (At.vl ?_)
   refine At.cond (ja R) (fun hb10=>?_) (fun hb10=>?_)
   ·replace hF:=W.ite_t hb10 hF
    refine At.skip (At.vl (At.block (At.seq (At.region (At.d R R R R (jb (x:=(.tv (kInt .i64) from7)) (ja R)) ?_)))))
    refine At.d R R R R (jb (x:=(.tv (kInt .i64) to6)) (ja R)) ?_
    refine At.d R R R R (jk (ja R) (ja R) vf) ?_
    refine At.d R R R R (jk (ja R) (ji _ _) (bin_quo (by decide))) ?_
    refine At.d R R R R (jd (x:=(.tv (kInt .i64) (w64 (Int.tdiv (w64 (from7+to6)) (2:Int))))) (ja R)) ?_
    refine At.done (At.vl (At.seq (At.region (At.d R R R R (je (ja R) qq) ?_))))
    refine At.d R R R R (jc (ja R) 0 R qc ty_22) ?_
    refine At.d R R R R (jb (x:=(.tv (kInt .i64) (w64 (Int.tdiv (w64 (from7+to6)) (2:Int))))) (ja R)) ?_
    obtain ⟨hq6,hF⟩:=hF
    refine At.d R R R R (vj zObject (ja R) (ja R) Tryz.underlying22 ty_59 hq6) ?_
    refine At.d R R R R (Ji (K:=kObject) (ja R) zg qm) ?_
    refine At.d R R R R (vw (K:=kStr) (ja R) ty_9) ?_
    refine At.d R R R R (jb (x:=(.tv kStr id1)) (ja R)) ?_
    refine At.d R R R R (jk (ja R) (ja R) bin_slss) ?_
    refine At.done (At.vl ?_)
    refine At.cond (ja R) (fun hb11=>?_) (fun hb11=>?_)
    ·replace hF:=W.ite_t hb11 hF
     refine At.region (At.d R R R R (jb (x:=(.tv (kInt .i64) (w64 (Int.tdiv (w64 (from7+to6)) (2:Int))))) (ja R)) ?_)
     refine At.d R R R R (jk (ja R) (ji _ _) vf) ?_
     refine At.d R R R R (jd (x:=(.tv (kInt .i64) (w64 ((w64 (Int.tdiv (w64 (from7+to6)) (2:Int)))+(1:Int))))) (ja R)) ?_
     refine At.done ?_
     refine At.n ?_
     refine At.vl ?_
     refine At.w [0] R [(1,(.tv kStr id1)),(2,(.eq (.pointer (some ⟨g1,0,none⟩)))),(5,(.tv (kInt .i64) (w64 ((w64 (Int.tdiv (w64 (from7+to6)) (2:Int)))+(1:Int))))),(6,(.tv (kInt .i64) to6))] ⟨R,R,R,R,trivial⟩ (At.r ⟨(w64 ((w64 (Int.tdiv (w64 (from7+to6)) (2:Int)))+(1:Int))),to6,hF,R,R⟩)
    ·replace hF:=W.ite_f hb11 hF
     refine At.region (At.d R R R R (jb (x:=(.tv (kInt .i64) (w64 (Int.tdiv (w64 (from7+to6)) (2:Int))))) (ja R)) ?_)
     refine At.d R R R R (jd (x:=(.tv (kInt .i64) (w64 (Int.tdiv (w64 (from7+to6)) (2:Int))))) (ja R)) ?_
     refine At.done ?_
     refine At.n ?_
     refine At.vl ?_
     refine At.w [0] R [(1,(.tv kStr id1)),(2,(.eq (.pointer (some ⟨g1,0,none⟩)))),(5,(.tv (kInt .i64) from7)),(6,(.tv (kInt .i64) (w64 (Int.tdiv (w64 (from7+to6)) (2:Int)))))] ⟨R,R,R,R,trivial⟩ (At.r ⟨from7,(w64 (Int.tdiv (w64 (from7+to6)) (2:Int))),hF,R,R⟩)
   ·replace hF:=W.ite_f hb10 hF
    refine At.exit ?_
    refine At.x (At.x ?_)
    refine At.h ?_
    refine At.vl ?_
    refine At.w [0] R [(1,(.tv kStr id1)),(2,(.eq (.pointer (some ⟨g1,0,none⟩)))),(5,(.tv (kInt .i64) from7))] ⟨R,R,R,trivial⟩ (At.r ⟨from7,hF,R,R⟩)
 ·rintro _ _ ⟨from4,hF,rfl,rfl⟩
  unfold qo.c1 at hF
  refine At.seq (At.seq (At.region (At.d R R R R (jb (x:=(.tv (kInt .i64) from4)) (ja R)) ?_)))
  refine At.d R R R R (je (ja R) qq) ?_
  refine At.d R R R R (jc (ja R) 0 R qc ty_22) ?_
  refine At.d R R R R (jt (ja R) Tryz.underlying22) ?_
  refine At.d R R R R (jk (ja R) (ja R) vg) ?_
  refine At.d R R R R (jb (x:=(.tv kBool (decide (from4<(m1.Objects.length:Int))))) (ja R)) ?_
  refine At.vn R R R R (jw R) R (fun hg1=>(je (ja R) qq)) ?_
  refine At.vn R R R R (jw R) R (fun hg2=>(jc (jh R hg2) 0 R qc ty_22)) ?_
  refine At.vn R R R R (jw R) R (fun hg3=>(jb (x:=(.tv (kInt .i64) from4)) (ja R))) ?_
  obtain ⟨hq3,hF⟩:=hF
  refine At.vn R R R R (jw R) R (fun hg4=>(vj zObject (jh R hg4) (jh R hg4) Tryz.underlying22 ty_59 (hq3 hg4))) ?_
  refine At.vn R R R R (jw R) R (fun hg5=>(Ji (K:=kObject) (jh R hg5) zg qm)) ?_
  refine At.vn R R R R (jw R) R (fun hg6=>(vw (K:=kStr) (jh R hg6) ty_9)) ?_
  refine At.vn R R R R (jw R) R (fun hg7=>(jb (x:=(.tv kStr id1)) (ja R))) ?_
  refine At.vn R R R R (jw R) R (fun hg8=>(jk (jh R hg8) (jh R hg8) bin_seql)) ?_
  refine At.d R R R R (jm (ja R) (ja R) (jl _) vh) ?_
  refine At.done (At.vl ?_)
  refine At.cond (ja R) (fun hb5=>?_) (fun hb5=>?_)
  ·replace hF:=W.ite_t hb5 hF
   refine At.seq (At.region (At.d R R R R (jb (x:=(.tv (kInt .i64) from4)) (ja R)) ?_))
   refine At.d R R R R (jd (x:=(.tv (kInt .i64) from4)) (ja R)) ?_
   refine At.done (At.vl (At.ret (At.vm ?_)))
   exact At.j rfl (rv_tmp rfl) [] rfl ⟨from4,hF,rfl,rfl⟩
  ·replace hF:=W.ite_f hb5 hF
   refine At.skip (At.vl (At.seq (At.region (At.d R R R R (jd (x:=(.tv (kInt .i64) (-1:Int))) (ji _ _)) ?_))))
   refine At.done (At.vl (At.ret ?_))
   exact At.j rfl (rv_tmp rfl) [] rfl ⟨(-1:Int),hF,rfl,rfl⟩
def ja1.F (o1:Object) (i1:Int):W Int:=W.ite ((o1.Kind==(4:Int))||((o1.Kind==(5:Int))&&(i1 != (1:Int)))) (W.ret (2:Int)) (W.ret (1:Int))
theorem ja1.ok {o1:Object} {i1:Int} {Q:Int→Prop} (hF:ja1.F o1 i1 Q):Con Tryz.prog 88 [.tv kObject o1,.tv (kInt .i64) i1] [] (fun ta rs'=>∃ (r:Int),Q r∧ta=.tv (kInt .i64) r∧rs'=[]):=by
 refine Con.i Tryz.func88 Tryz.ntmps88 R R (fun C=>?_)
 unfold ja1.F at hF
 refine At.seq (At.region (At.f R (jy R R R (ja R)) ?_))
 rintro _ _ ⟨g1,rfl,rfl⟩
 refine At.d R R R R (jd (x:=(.tv (kInt .i64) (0:Int))) (ji _ _)) ?_
 refine At.done (At.vl (At.seq (At.seq (At.region (At.d R R R R (je (ja R) yj) ?_)))))
 refine At.d R R R R (jc (ja R) 0 R qa ty_3) ?_
 refine At.d R R R R (jk (ja R) (ji _ _) bin_eql) ?_
 refine At.d R R R R (jb (x:=(.tv kBool (o1.Kind==(4:Int)))) (ja R)) ?_
 refine At.vn R R R R (jx R) R (fun hg1=>(je (ja R) yj)) ?_
 refine At.vn R R R R (jx R) R (fun hg2=>(jc (jh R hg2) 0 R qa ty_3)) ?_
 refine At.vn R R R R (jx R) R (fun hg3=>(jk (jh R hg3) (ji _ _) bin_eql)) ?_
 refine At.vn R R R R (jx R) R (fun hg4=>(jb (x:=(.tv kBool (o1.Kind==(5:Int)))) (jh R hg4))) ?_
 refine At.vn R R R R (ju R) R (fun hg5=>(jb (x:=(.tv (kInt .i64) i1)) (ja R))) ?_
 refine At.vn R R R R (ju R) R (fun hg6=>(jk (jh R hg6) (ji _ _) bin_neq)) ?_
 refine At.vn R R R R (jx R) R (fun hg7=>(jm (jh R hg7) (ja R) (jl _) (pick_andG (and_of hg7)))) ?_
 refine At.d R R R R (jm (ja R) (jl _) (ja R) vi) ?_
 refine At.done (At.vl ?_)
 refine At.cond (ja R) (fun hb1=>?_) (fun hb1=>?_)
 ·replace hF:=W.ite_t hb1 hF
  refine At.seq (At.region (At.d R R R R (jd (x:=(.tv (kInt .i64) (2:Int))) (ji _ _)) ?_))
  refine At.done (At.vl (At.ret (At.vm ?_)))
  exact At.j rfl (rv_tmp rfl) [] rfl ⟨(2:Int),hF,rfl,rfl⟩
 ·replace hF:=W.ite_f hb1 hF
  refine At.skip (At.vl (At.seq (At.region (At.d R R R R (jd (x:=(.tv (kInt .i64) (1:Int))) (ji _ _)) ?_))))
  refine At.done (At.vl (At.ret ?_))
  exact At.j rfl (rv_tmp rfl) [] rfl ⟨(1:Int),hF,rfl,rfl⟩
def Vs.c1:W Bool:=W.ret true
def Vs.l1 (self:Map→Object→W Bool) (m1:Map) (o1:Object) (K1:W Bool) (A1:Int→W Bool) (i6:Int):W Bool:=W.ite (decide (i6<(o1.Refs.length:Int))) (W.req (0≤i6∧i6<(o1.Refs.length:Int)) (W.bind (qo.F m1 (rd (⟨#[]⟩:BA) o1.Refs i6)) (fun r13=>W.req ((!(decide (r13<(0:Int))))=true→0≤r13∧r13<(m1.Objects.length:Int)) (W.bind (W.ite (!(decide (r13<(0:Int)))) (ja1.F o1 i6) (W.ret (0:Int))) (fun r14=>W.req ((!((decide (r13<(0:Int)))||(((rd zObject m1.Objects r13).Kind) != r14)))=true→0≤r13∧r13<(m1.Objects.length:Int)) (W.bind (W.ite (!((decide (r13<(0:Int)))||(((rd zObject m1.Objects r13).Kind) != r14))) (self m1 (rd zObject m1.Objects r13)) (W.ret false)) (fun r15=>W.ite (((decide (r13<(0:Int)))||(((rd zObject m1.Objects r13).Kind) != r14))||(!r15)) (W.ret false) (A1 (w64 (i6+(1:Int))))))))))) (K1)
def Vs.G (self:Map→Object→W Bool) (m1:Map) (o1:Object):W Bool:=W.ex fun n=>W.iter1 (Vs.l1 self m1 o1 (Vs.c1)) n (0:Int)
def Vs.Fn:Nat→Map→Object→W Bool
 | 0=>fun _ _=>W.fail
 | n+1=>Vs.G (Vs.Fn n)
def Vs.F (m1:Map) (o1:Object):W Bool:=W.ex fun n=>Vs.Fn n m1 o1
theorem Vs.okn (n:Nat):∀ {m1:Map} {o1:Object} {Q:Bool→Prop},Vs.Fn n m1 o1 Q→Con Tryz.prog 52 [.tv kMap m1,.tv kObject o1] [] (fun ta rs'=>∃ (r:Bool),Q r∧ta=.tv kBool r∧rs'=[]):=by
 induction n with
 | zero=>intro m1 o1 Q hF;exact False.elim hF
 | succ n ih=>
  intro m1 o1 Q hF
  replace hF:Vs.G (Vs.Fn n) m1 o1 Q:=hF
  refine Con.i Tryz.func52 Tryz.ntmps52 R R (fun C=>?_)
  unfold Vs.G at hF
  refine At.seq (At.region (At.f R (jy R R R (ja R)) ?_))
  rintro _ _ ⟨g1,rfl,rfl⟩
  refine At.f R (jy R R R (ja R)) ?_
  rintro _ _ ⟨g2,rfl,rfl⟩
  refine At.d R R R R (jd (x:=(.tv kBool false)) (jl _)) ?_
  refine At.done (At.vl ?_)
  refine At.cut (fun rs L=>∃ _:Unit,Vs.c1 Q∧rs=[]∧L=mkL []) ?_ ?_
  ·refine At.seq (At.region (At.d R R R R (jd (x:=(.tv (kInt .i64) (0:Int))) (ji _ _)) ?_))
   refine At.done (At.vl (At.block ?_))
   obtain ⟨n1,hF⟩:=hF
   refine At.w [1,0] R [(2,(.eq (.pointer (some ⟨g1,0,none⟩)))),(3,(.eq (.pointer (some ⟨g2,0,none⟩)))),(5,(.tv (kInt .i64) (0:Int)))] ⟨R,R,R,trivial⟩ ?_
   refine At.loop (fun m rs L=>∃ (i6:Int),W.iter1 (Vs.l1 (Vs.Fn n) m1 o1 (Vs.c1)) m i6 Q∧rs=[.box g1 24 kMap m1,.box g2 59 kObject o1]∧L=mkL [(2,(.eq (.pointer (some ⟨g1,0,none⟩)))),(3,(.eq (.pointer (some ⟨g2,0,none⟩)))),(5,(.tv (kInt .i64) i6))]) ?_ ?_ (m:=n1) ⟨(0:Int),hF,R,R⟩
   ·rintro rs L ⟨_,hF,_,_⟩;exact hF
   ·rintro m2 _ _ ⟨i6,hF,rfl,rfl⟩
    replace hF:=W.iter1_s hF
    unfold Vs.l1 at hF
    refine At.seq (At.seq (At.region (At.d R R R R (jb (x:=(.tv (kInt .i64) i6)) (ja R)) ?_)))
    refine At.d R R R R (je (ja R) qz) ?_
    refine At.d R R R R (jc (ja R) 1 R Vl ty_41) ?_
    refine At.d R R R R (jt (ja R) Tryz.underlying41) ?_
    refine At.d R R R R (jk (ja R) (ja R) vg) ?_
    refine At.done (At.vl ?_)
    refine At.cond (ja R) (fun hb9=>?_) (fun hb9=>?_)
    ·replace hF:=W.ite_t hb9 hF
     refine At.skip (At.vl (At.seq (At.block (At.seq ?_))))
     refine At.draw mixed [0,1] R [[],[]] (fun φ w hgd=>?_)
     obtain ⟨hq13,hF⟩:=hF
     replace hF:=W.vq hF
     refine AtH.take [0,1] hgd 0 R R R R (D':=#[Y,N,N,N,N,N,N,N]) (by kernel_rfl) (fun _ _ _ _ h=>h) R (jc (ja R) 0 R (Sub.self kMap) ty_24) ?_
     refine AtH.take [0,1] hgd 1 R R R R (D':=#[Y,Y,N,N,N,N,N,N]) (by kernel_rfl) (fun _ _ _ _ h=>h) R (je (ja R) qz) ?_
     refine AtH.take [0,1] hgd 2 R R R R (D':=#[Y,Y,Y,N,N,N,N,N]) (by kernel_rfl) (fun _ _ _ _ h=>h) R (jc (ja R) 1 R Vl ty_41) ?_
     refine AtH.take [0,1] hgd 3 R R R R (D':=#[Y,Y,Y,Y,N,N,N,N]) (by kernel_rfl) (fun _ _ _ _ h=>h) R (jb (x:=(.tv (kInt .i64) i6)) (ja R)) ?_
     refine AtH.take [0,1] hgd 4 R R R R (D':=#[Y,Y,Y,Y,Y,N,N,N]) (by kernel_rfl) (fun _ _ _ _ h=>h) R (vj (⟨#[]⟩:BA) (ja R) (ja R) Tryz.underlying41 ty_9 hq13) ?_
     refine AtH.take [0,1] hgd 5 R R R R (D':=#[Y,Y,Y,Y,Y,Y,N,N]) (by kernel_rfl) (fun _ _ _ _ h=>h) R (vw (K:=kStr) (ja R) ty_9) ?_
     refine AtH.all1 6 (by kernel_rfl) ?_
     refine AtH.f [(0,0),(1,1)] R R R R R R (jn R R jp (jq R en_87 (jf (ja R) (jf (ja R) jg))) (qo.ok hF) (by rintro _ _ ⟨r,_,rfl,_⟩;exact flat_int)) (D':=#[Y,Y,Y,Y,Y,Y,Y,N]) (by kernel_rfl) (by kernel_rfl) ?_
     rintro _ _ ⟨_,_,⟨r13,hF,rfl,rfl⟩,rfl,rfl⟩
     refine ⟨_,.inr ⟨R,flat_int⟩,?_⟩
     refine AtH.take [0,1] hgd 7 R R R R (D':=#[Y,Y,Y,Y,Y,Y,Y,Y]) (by kernel_rfl) (fun _ _ _ _ h=>h) R (jd (x:=(.tv (kInt .i64) r13)) (ja R)) ?_
     refine AtH.done (by kernel_rfl) ?_
     refine At.vl (At.seq ?_)
     refine At.draw mixed [0,1] R [[],[]] (fun φ w hgd=>?_)
     obtain ⟨hq14,hF⟩:=hF
     replace hF:=W.vq hF
     refine AtH.take [0,1] hgd 0 R R R R (D':=#[Y,N,N,N,N,N,N,N,N,N,N,N,N,N,N,N,N,N,N,N,N,N,N,N]) (by kernel_rfl) (fun _ _ _ _ h=>h) R (jb (x:=(.tv (kInt .i64) r13)) (ja R)) ?_
     refine AtH.take [0,1] hgd 1 R R R R (D':=#[Y,Y,N,N,N,N,N,N,N,N,N,N,N,N,N,N,N,N,N,N,N,N,N,N]) (by kernel_rfl) (fun _ _ _ _ h=>h) R (jk (ja R) (ji _ _) vg) ?_
     refine AtH.take [0,1] hgd 2 R R R R (D':=#[Y,Y,Y,N,N,N,N,N,N,N,N,N,N,N,N,N,N,N,N,N,N,N,N,N]) (by kernel_rfl) (fun _ _ _ _ h=>h) R (jb (x:=(.tv kBool (decide (r13<(0:Int))))) (ja R)) ?_
     refine AtH.vo [0,1] hgd 3 R R R (jx R) R R (D':=#[Y,Y,Y,Y,N,N,N,N,N,N,N,N,N,N,N,N,N,N,N,N,N,N,N,N]) (by kernel_rfl) (fun _ _ _ _ h=>h) R (fun hg153=>(je (ja R) qq)) ?_
     refine AtH.vo [0,1] hgd 4 R R R (jx R) R R (D':=#[Y,Y,Y,Y,Y,N,N,N,N,N,N,N,N,N,N,N,N,N,N,N,N,N,N,N]) (by kernel_rfl) (fun _ _ _ _ h=>h) R (fun hg154=>(jc (jh R hg154) 0 R qc ty_22)) ?_
     refine AtH.vo [0,1] hgd 5 R R R (jx R) R R (D':=#[Y,Y,Y,Y,Y,Y,N,N,N,N,N,N,N,N,N,N,N,N,N,N,N,N,N,N]) (by kernel_rfl) (fun _ _ _ _ h=>h) R (fun hg155=>(jb (x:=(.tv (kInt .i64) r13)) (ja R))) ?_
     refine AtH.vo [0,1] hgd 6 R R R (jx R) R R (D':=#[Y,Y,Y,Y,Y,Y,Y,N,N,N,N,N,N,N,N,N,N,N,N,N,N,N,N,N]) (by kernel_rfl) (fun _ _ _ _ h=>h) R (fun hg156=>(vj zObject (jh R hg156) (jh R hg156) Tryz.underlying22 ty_59 (hq14 hg156))) ?_
     refine AtH.vo [0,1] hgd 7 R R R (jx R) R R (D':=#[Y,Y,Y,Y,Y,Y,Y,Y,N,N,N,N,N,N,N,N,N,N,N,N,N,N,N,N]) (by kernel_rfl) (fun _ _ _ _ h=>h) R (fun hg157=>(Ji (K:=kObject) (jh R hg157) yj qa)) ?_
     refine AtH.vo [0,1] hgd 8 R R R (jx R) R R (D':=#[Y,Y,Y,Y,Y,Y,Y,Y,Y,N,N,N,N,N,N,N,N,N,N,N,N,N,N,N]) (by kernel_rfl) (fun _ _ _ _ h=>h) R (fun hg158=>(vw (K:=(kInt .i64)) (jh R hg158) ty_3)) ?_
     refine AtH.vo [0,1] hgd 9 R R R (jx R) R R (D':=#[Y,Y,Y,Y,Y,Y,Y,Y,Y,Y,N,N,N,N,N,N,N,N,N,N,N,N,N,N]) (by kernel_rfl) (fun _ _ _ _ h=>h) R (fun hg159=>(jc (ja R) 1 R (Sub.self kObject) ty_59)) ?_
     refine AtH.vo [0,1] hgd 10 R R R (jx R) R R (D':=#[Y,Y,Y,Y,Y,Y,Y,Y,Y,Y,Y,N,N,N,N,N,N,N,N,N,N,N,N,N]) (by kernel_rfl) (fun _ _ _ _ h=>h) R (fun hg160=>(jb (x:=(.tv (kInt .i64) i6)) (ja R))) ?_
     refine AtH.all1 11 (by kernel_rfl) ?_
     refine AtH.effG [(0,0),(1,1)] R R R R R R R (jx R) (D':=#[Y,Y,Y,Y,Y,Y,Y,Y,Y,Y,Y,Y,N,N,N,N,N,N,N,N,N,N,N,N]) (by kernel_rfl) (by kernel_rfl) hF (fun r=>.tv (kInt .i64) r) (fun _=>flat_int) (fun hg161 hF=>vr (jn R R jp (jq R en_88 (jf (jh R hg161) (jf (jh R hg161) jg))) (ja1.ok hF) (by rintro _ _ ⟨r,_,rfl,_⟩;exact flat_int)) (by rintro _ _ ⟨_,_,⟨r,hF,rfl,rfl⟩,rfl,rfl⟩;exact ⟨r,hF,R,R⟩)) (fun r14 hF=>?_)
     obtain ⟨hq15,hF⟩:=hF
     replace hF:=W.vq hF
     refine AtH.vo [0,1] hgd 12 R R R (jx R) R R (D':=#[Y,Y,Y,Y,Y,Y,Y,Y,Y,Y,Y,Y,Y,N,N,N,N,N,N,N,N,N,N,N]) (by kernel_rfl) (fun _ _ _ _ h=>h) R (fun hg162=>(jk (jh R hg162) (jh R hg162) bin_neq)) ?_
     refine AtH.take [0,1] hgd 13 R R R R (D':=#[Y,Y,Y,Y,Y,Y,Y,Y,Y,Y,Y,Y,Y,Y,N,N,N,N,N,N,N,N,N,N]) (by kernel_rfl) (fun _ _ _ _ h=>h) R (jm (ja R) (jl _) (ja R) vi) ?_
     refine AtH.take [0,1] hgd 14 R R R R (D':=#[Y,Y,Y,Y,Y,Y,Y,Y,Y,Y,Y,Y,Y,Y,Y,N,N,N,N,N,N,N,N,N]) (by kernel_rfl) (fun _ _ _ _ h=>h) R (jb (x:=(.tv kBool ((decide (r13<(0:Int)))||(((rd zObject m1.Objects r13).Kind) != r14)))) (ja R)) ?_
     refine AtH.vo [0,1] hgd 15 R R R (jx R) R R (D':=#[Y,Y,Y,Y,Y,Y,Y,Y,Y,Y,Y,Y,Y,Y,Y,Y,N,N,N,N,N,N,N,N]) (by kernel_rfl) (fun _ _ _ _ h=>h) R (fun hg163=>(jc (ja R) 0 R (Sub.self kMap) ty_24)) ?_
     refine AtH.vo [0,1] hgd 16 R R R (jx R) R R (D':=#[Y,Y,Y,Y,Y,Y,Y,Y,Y,Y,Y,Y,Y,Y,Y,Y,Y,N,N,N,N,N,N,N]) (by kernel_rfl) (fun _ _ _ _ h=>h) R (fun hg164=>(je (ja R) qq)) ?_
     refine AtH.vo [0,1] hgd 17 R R R (jx R) R R (D':=#[Y,Y,Y,Y,Y,Y,Y,Y,Y,Y,Y,Y,Y,Y,Y,Y,Y,Y,N,N,N,N,N,N]) (by kernel_rfl) (fun _ _ _ _ h=>h) R (fun hg165=>(jc (jh R hg165) 0 R qc ty_22)) ?_
     refine AtH.vo [0,1] hgd 18 R R R (jx R) R R (D':=#[Y,Y,Y,Y,Y,Y,Y,Y,Y,Y,Y,Y,Y,Y,Y,Y,Y,Y,Y,N,N,N,N,N]) (by kernel_rfl) (fun _ _ _ _ h=>h) R (fun hg166=>(jb (x:=(.tv (kInt .i64) r13)) (ja R))) ?_
     refine AtH.vo [0,1] hgd 19 R R R (jx R) R R (D':=#[Y,Y,Y,Y,Y,Y,Y,Y,Y,Y,Y,Y,Y,Y,Y,Y,Y,Y,Y,Y,N,N,N,N]) (by kernel_rfl) (fun _ _ _ _ h=>h) R (fun hg167=>(vj zObject (jh R hg167) (jh R hg167) Tryz.underlying22 ty_59 (hq15 hg167))) ?_
     refine AtH.vo [0,1] hgd 20 R R R (jx R) R R (D':=#[Y,Y,Y,Y,Y,Y,Y,Y,Y,Y,Y,Y,Y,Y,Y,Y,Y,Y,Y,Y,Y,N,N,N]) (by kernel_rfl) (fun _ _ _ _ h=>h) R (fun hg168=>(vw (K:=kObject) (jh R hg168) ty_59)) ?_
     refine AtH.all1 21 (by kernel_rfl) ?_
     refine AtH.effG [(0,0),(1,1)] R R R R R R R (jx R) (D':=#[Y,Y,Y,Y,Y,Y,Y,Y,Y,Y,Y,Y,Y,Y,Y,Y,Y,Y,Y,Y,Y,Y,N,N]) (by kernel_rfl) (by kernel_rfl) hF (fun r=>.tv kBool r) (fun _=>vp) (fun hg169 hF=>vr (jn R R jp (jq R en_52 (jf (jh R hg169) (jf (jh R hg169) jg))) (ih hF) (by rintro _ _ ⟨r,_,rfl,_⟩;exact vp)) (by rintro _ _ ⟨_,_,⟨r,hF,rfl,rfl⟩,rfl,rfl⟩;exact ⟨r,hF,R,R⟩)) (fun r15 hF=>?_)
     refine AtH.vo [0,1] hgd 22 R R R (jx R) R R (D':=#[Y,Y,Y,Y,Y,Y,Y,Y,Y,Y,Y,Y,Y,Y,Y,Y,Y,Y,Y,Y,Y,Y,Y,N]) (by kernel_rfl) (fun _ _ _ _ h=>h) R (fun hg170=>(ve (jh R hg170))) ?_
     refine AtH.take [0,1] hgd 23 R R R R (D':=#[Y,Y,Y,Y,Y,Y,Y,Y,Y,Y,Y,Y,Y,Y,Y,Y,Y,Y,Y,Y,Y,Y,Y,Y]) (by kernel_rfl) (fun _ _ _ _ h=>h) R (jm (ja R) (jl _) (ja R) vi) ?_
     refine AtH.done (by kernel_rfl) ?_
     refine At.vl ?_
     refine At.cond (ja R) (fun hb10=>?_) (fun hb10=>?_)
     ·replace hF:=W.ite_t hb10 hF
      refine At.seq (At.region (At.d R R R R (jd (x:=(.tv kBool false)) (jl _)) ?_))
      refine At.done (At.vl (At.ret ?_))
      refine At.q ?_
      refine At.vm (At.vm ?_)
      refine At.q ?_
      refine At.vm ?_
      exact At.j rfl (rv_tmp rfl) [] rfl ⟨false,hF,rfl,rfl⟩
     ·replace hF:=W.ite_f hb10 hF
      refine At.skip ?_
      refine At.n ?_
      refine At.vl (At.region (At.d R R R R (jb (x:=(.tv (kInt .i64) i6)) (ja R)) ?_))
      refine At.d R R R R (jk (ja R) (ji _ _) vf) ?_
      refine At.d R R R R (jd (x:=(.tv (kInt .i64) (w64 (i6+(1:Int))))) (ja R)) ?_
      refine At.done (At.vl ?_)
      refine At.w [0,1] R [(2,(.eq (.pointer (some ⟨g1,0,none⟩)))),(3,(.eq (.pointer (some ⟨g2,0,none⟩)))),(5,(.tv (kInt .i64) (w64 (i6+(1:Int)))))] ⟨R,R,R,trivial⟩ (At.r ⟨(w64 (i6+(1:Int))),hF,R,R⟩)
    ·replace hF:=W.ite_f hb9 hF
     refine At.exit ?_
     refine At.x (At.x ?_)
     refine At.h ?_
     refine At.vl ?_
     refine At.w [] R [] trivial (At.r ⟨(),hF,R,R⟩)
  ·rintro _ _ ⟨_,hF,rfl,rfl⟩
   unfold Vs.c1 at hF
   refine At.seq (At.region (At.d R R R R (jd (x:=(.tv kBool true)) (jl _)) ?_))
   refine At.done (At.vl (At.ret ?_))
   exact At.j rfl (rv_tmp rfl) [] rfl ⟨true,hF,rfl,rfl⟩
theorem Vs.ok {m1:Map} {o1:Object} {Q:Bool→Prop} (hF:Vs.F m1 o1 Q):Con Tryz.prog 52 [.tv kMap m1,.tv kObject o1] [] (fun ta rs'=>∃ (r:Bool),Q r∧ta=.tv kBool r∧rs'=[]):=by
 obtain ⟨n,hF⟩:=hF
 exact Vs.okn n hF
def zj.F (c1:Int):W Bool:=W.ret (((decide ((97:Int)≤c1))&&(decide (c1≤(122:Int))))||((decide ((65:Int)≤c1))&&(decide (c1≤(90:Int)))))
theorem zj.ok {c1:Int} {Q:Bool→Prop} (hF:zj.F c1 Q):Con Tryz.prog 154 [.tv (kInt .u8) c1] [] (fun ta rs'=>∃ (r:Bool),Q r∧ta=.tv kBool r∧rs'=[]):=by
 refine Con.i Tryz.func154 Tryz.ntmps154 R R (fun C=>?_)
 unfold zj.F at hF
 refine At.seq (At.region (At.d R R R R (jd (x:=(.tv kBool false)) (jl _)) ?_))
 refine At.done (At.vl (At.seq (At.region (At.d R R R R (jb (x:=(.tv (kInt .u8) c1)) (ja R)) ?_))))
 refine At.d R R R R (jk (ja R) (ji _ _) bin_geq) ?_
 refine At.d R R R R (jb (x:=(.tv kBool (decide ((97:Int)≤c1)))) (ja R)) ?_
 refine At.vn R R R R (jw R) R (fun hg1=>(jb (x:=(.tv (kInt .u8) c1)) (ja R))) ?_
 refine At.vn R R R R (jw R) R (fun hg2=>(jk (jh R hg2) (ji _ _) bin_leq)) ?_
 refine At.d R R R R (jm (ja R) (ja R) (jl _) vh) ?_
 refine At.d R R R R (jb (x:=(.tv kBool ((decide ((97:Int)≤c1))&&(decide (c1≤(122:Int)))))) (ja R)) ?_
 refine At.vn R R R R (jx R) R (fun hg3=>(jb (x:=(.tv (kInt .u8) c1)) (ja R))) ?_
 refine At.vn R R R R (jx R) R (fun hg4=>(jk (jh R hg4) (ji _ _) bin_geq)) ?_
 refine At.vn R R R R (jx R) R (fun hg5=>(jb (x:=(.tv kBool (decide ((65:Int)≤c1)))) (jh R hg5))) ?_
 refine At.vn R R R R (ju R) R (fun hg6=>(jb (x:=(.tv (kInt .u8) c1)) (ja R))) ?_
 refine At.vn R R R R (ju R) R (fun hg7=>(jk (jh R hg7) (ji _ _) bin_leq)) ?_
 refine At.vn R R R R (jx R) R (fun hg8=>(jm (jh R hg8) (ja R) (jl _) (pick_andG (and_of hg8)))) ?_
 refine At.d R R R R (jm (ja R) (jl _) (ja R) vi) ?_
 refine At.d R R R R (jd (x:=(.tv kBool (((decide ((97:Int)≤c1))&&(decide (c1≤(122:Int))))||((decide ((65:Int)≤c1))&&(decide (c1≤(90:Int))))))) (ja R)) ?_
 refine At.done (At.vl (At.ret ?_))
 exact At.j rfl (rv_tmp rfl) [] rfl ⟨(((decide ((97:Int)≤c1))&&(decide (c1≤(122:Int))))||((decide ((65:Int)≤c1))&&(decide (c1≤(90:Int))))),hF,rfl,rfl⟩
def ja8.F (c1:Int):W Bool:=W.ret ((decide ((48:Int)≤c1))&&(decide (c1≤(57:Int))))
theorem ja8.ok {c1:Int} {Q:Bool→Prop} (hF:ja8.F c1 Q):Con Tryz.prog 178 [.tv (kInt .u8) c1] [] (fun ta rs'=>∃ (r:Bool),Q r∧ta=.tv kBool r∧rs'=[]):=by
 refine Con.i Tryz.func178 Tryz.ntmps178 R R (fun C=>?_)
 unfold ja8.F at hF
 refine At.seq (At.region (At.d R R R R (jd (x:=(.tv kBool false)) (jl _)) ?_))
 refine At.done (At.vl (At.seq (At.region (At.d R R R R (jb (x:=(.tv (kInt .u8) c1)) (ja R)) ?_))))
 refine At.d R R R R (jk (ja R) (ji _ _) bin_geq) ?_
 refine At.d R R R R (jb (x:=(.tv kBool (decide ((48:Int)≤c1)))) (ja R)) ?_
 refine At.vn R R R R (jw R) R (fun hg1=>(jb (x:=(.tv (kInt .u8) c1)) (ja R))) ?_
 refine At.vn R R R R (jw R) R (fun hg2=>(jk (jh R hg2) (ji _ _) bin_leq)) ?_
 refine At.d R R R R (jm (ja R) (ja R) (jl _) vh) ?_
 refine At.d R R R R (jd (x:=(.tv kBool ((decide ((48:Int)≤c1))&&(decide (c1≤(57:Int)))))) (ja R)) ?_
 refine At.done (At.vl (At.ret ?_))
 exact At.j rfl (rv_tmp rfl) [] rfl ⟨((decide ((48:Int)≤c1))&&(decide (c1≤(57:Int)))),hF,rfl,rfl⟩
def ref08_word.F (c1:Int):W Bool:=W.bind (zj.F c1) (fun r1=>W.bind (W.ite (!r1) (ja8.F c1) (W.ret false)) (fun r2=>W.ret ((r1||r2)||(c1==(95:Int)))))
theorem ref08_word.ok {c1:Int} {Q:Bool→Prop} (hF:ref08_word.F c1 Q):Con Tryz.prog 153 [.tv (kInt .u8) c1] [] (fun ta rs'=>∃ (r:Bool),Q r∧ta=.tv kBool r∧rs'=[]):=by
 refine Con.i Tryz.func153 Tryz.ntmps153 R R (fun C=>?_)
 unfold ref08_word.F at hF
 refine At.seq (At.region (At.d R R R R (jd (x:=(.tv kBool false)) (jl _)) ?_))
 refine At.done (At.vl (At.seq (At.region (At.d R R R R (jb (x:=(.tv (kInt .u8) c1)) (ja R)) ?_))))
 replace hF:=W.vq hF
 refine At.f R (jn R R jp (jq R en_154 (jf (ja R) jg)) (zj.ok hF) (by rintro _ _ ⟨r,_,rfl,_⟩;exact vp)) ?_
 rintro _ _ ⟨_,_,⟨r1,hF,rfl,rfl⟩,rfl,rfl⟩
 refine At.d R R R R (jb (x:=(.tv kBool r1)) (ja R)) ?_
 refine At.vn R R R R (jx R) R (fun hg1=>(jb (x:=(.tv (kInt .u8) c1)) (ja R))) ?_
 replace hF:=W.vq hF
 refine At.effG R R R R (jx R) hF (fun r=>.tv kBool r) (fun hg2 hF=>vr (jn R R jp (jq R en_178 (jf (jh R hg2) jg)) (ja8.ok hF) (by rintro _ _ ⟨r,_,rfl,_⟩;exact vp)) (by rintro _ _ ⟨_,_,⟨r,hF,rfl,rfl⟩,rfl,rfl⟩;exact ⟨r,hF,R,R⟩)) (fun r2 hF=>?_)
 refine At.d R R R R (jm (ja R) (jl _) (ja R) vi) ?_
 refine At.d R R R R (jb (x:=(.tv kBool (r1||r2))) (ja R)) ?_
 refine At.vn R R R R (jx R) R (fun hg3=>(jb (x:=(.tv (kInt .u8) c1)) (ja R))) ?_
 refine At.vn R R R R (jx R) R (fun hg4=>(jk (jh R hg4) (ji _ _) bin_eql)) ?_
 refine At.d R R R R (jm (ja R) (jl _) (ja R) vi) ?_
 refine At.d R R R R (jd (x:=(.tv kBool ((r1||r2)||(c1==(95:Int))))) (ja R)) ?_
 refine At.done (At.vl (At.ret ?_))
 exact At.j rfl (rv_tmp rfl) [] rfl ⟨((r1||r2)||(c1==(95:Int))),hF,rfl,rfl⟩
def qw.c1 (s1:BA):W Bool:=W.req (((decide ((0:Int)<(s1.size:Int)))&&(decide ((s1.size:Int)≤(24:Int))))=true→0≤(0:Int)∧(0:Int)<(s1.size:Int)) (W.bind (W.ite ((decide ((0:Int)<(s1.size:Int)))&&(decide ((s1.size:Int)≤(24:Int)))) (zj.F (byteAt s1 (0:Int))) (W.ret false)) (fun r3=>W.ret (((decide ((0:Int)<(s1.size:Int)))&&(decide ((s1.size:Int)≤(24:Int))))&&r3)))
def qw.l1 (s1:BA) (K1:W Bool) (A1:Int→W Bool) (i6:Int):W Bool:=W.ite (decide (i6<(s1.size:Int))) (W.req (0≤i6∧i6<(s1.size:Int)) (W.bind (ref08_word.F (byteAt s1 i6)) (fun r6=>W.ite (!r6) (W.ret false) (A1 (w64 (i6+(1:Int))))))) (K1)
def qw.F (s1:BA):W Bool:=W.ex fun n=>W.iter1 (qw.l1 s1 (qw.c1 s1)) n (0:Int)
theorem qw.ok {s1:BA} {Q:Bool→Prop} (hF:qw.F s1 Q):Con Tryz.prog 124 [.tv kStr s1] [] (fun ta rs'=>∃ (r:Bool),Q r∧ta=.tv kBool r∧rs'=[]):=by
 refine Con.i Tryz.func124 Tryz.ntmps124 R R (fun C=>?_)
 unfold qw.F at hF
 refine At.seq (At.region (At.d R R R R (jd (x:=(.tv kBool false)) (jl _)) ?_))
 refine At.done (At.vl ?_)
 refine At.cut (fun rs L=>∃ _:Unit,qw.c1 s1 Q∧rs=[]∧L=mkL [(0,(.tv kStr s1))]) ?_ ?_
 ·refine At.seq (At.region (At.d R R R R (jd (x:=(.tv (kInt .i64) (0:Int))) (ji _ _)) ?_))
  refine At.done (At.vl (At.block ?_))
  obtain ⟨n1,hF⟩:=hF
  refine At.w [] R [(0,(.tv kStr s1)),(3,(.tv (kInt .i64) (0:Int)))] ⟨R,R,trivial⟩ ?_
  refine At.loop (fun m rs L=>∃ (i6:Int),W.iter1 (qw.l1 s1 (qw.c1 s1)) m i6 Q∧rs=[]∧L=mkL [(0,(.tv kStr s1)),(3,(.tv (kInt .i64) i6))]) ?_ ?_ (m:=n1) ⟨(0:Int),hF,R,R⟩
  ·rintro rs L ⟨_,hF,_,_⟩;exact hF
  ·rintro m1 _ _ ⟨i6,hF,rfl,rfl⟩
   replace hF:=W.iter1_s hF
   unfold qw.l1 at hF
   refine At.seq (At.seq (At.region (At.d R R R R (jb (x:=(.tv (kInt .i64) i6)) (ja R)) ?_)))
   refine At.d R R R R (jb (x:=(.tv kStr s1)) (ja R)) ?_
   refine At.d R R R R (does_len_str (ja R) Tryz.underlying9) ?_
   refine At.d R R R R (jk (ja R) (ja R) vg) ?_
   refine At.done (At.vl ?_)
   refine At.cond (ja R) (fun hb9=>?_) (fun hb9=>?_)
   ·replace hF:=W.ite_t hb9 hF
    refine At.skip (At.vl (At.seq (At.block (At.seq (At.region (At.d R R R R (jb (x:=(.tv kStr s1)) (ja R)) ?_))))))
    refine At.d R R R R (jb (x:=(.tv (kInt .i64) i6)) (ja R)) ?_
    obtain ⟨hq6,hF⟩:=hF
    refine At.d R R R R (does_index_str (ja R) (ja R) Tryz.underlying9 hq6) ?_
    replace hF:=W.vq hF
    refine At.f R (jn R R jp (jq R en_153 (jf (ja R) jg)) (ref08_word.ok hF) (by rintro _ _ ⟨r,_,rfl,_⟩;exact vp)) ?_
    rintro _ _ ⟨_,_,⟨r6,hF,rfl,rfl⟩,rfl,rfl⟩
    refine At.d R R R R (ve (ja R)) ?_
    refine At.done (At.vl ?_)
    refine At.cond (ja R) (fun hb10=>?_) (fun hb10=>?_)
    ·replace hF:=W.ite_t hb10 hF
     refine At.seq (At.region (At.d R R R R (jd (x:=(.tv kBool false)) (jl _)) ?_))
     refine At.done (At.vl (At.ret ?_))
     refine At.q ?_
     refine At.vm (At.vm ?_)
     refine At.q ?_
     refine At.vm ?_
     exact At.j rfl (rv_tmp rfl) [] rfl ⟨false,hF,rfl,rfl⟩
    ·replace hF:=W.ite_f hb10 hF
     refine At.skip ?_
     refine At.n ?_
     refine At.vl (At.region (At.d R R R R (jb (x:=(.tv (kInt .i64) i6)) (ja R)) ?_))
     refine At.d R R R R (jk (ja R) (ji _ _) vf) ?_
     refine At.d R R R R (jd (x:=(.tv (kInt .i64) (w64 (i6+(1:Int))))) (ja R)) ?_
     refine At.done (At.vl ?_)
     refine At.w [] R [(0,(.tv kStr s1)),(3,(.tv (kInt .i64) (w64 (i6+(1:Int)))))] ⟨R,R,trivial⟩ (At.r ⟨(w64 (i6+(1:Int))),hF,R,R⟩)
   ·replace hF:=W.ite_f hb9 hF
    refine At.exit ?_
    refine At.x (At.x ?_)
    refine At.h ?_
    refine At.vl ?_
    refine At.w [] R [(0,(.tv kStr s1))] ⟨R,trivial⟩ (At.r ⟨(),hF,R,R⟩)
 ·rintro _ _ ⟨_,hF,rfl,rfl⟩
  unfold qw.c1 at hF
  refine At.seq (At.region (At.d R R R R (jb (x:=(.tv kStr s1)) (ja R)) ?_))
  refine At.d R R R R (does_len_str (ja R) Tryz.underlying9) ?_
  refine At.d R R R R (jk (ja R) (ji _ _) bin_gtr) ?_
  refine At.d R R R R (jb (x:=(.tv kBool (decide ((0:Int)<(s1.size:Int))))) (ja R)) ?_
  refine At.vn R R R R (jw R) R (fun hg1=>(jb (x:=(.tv kStr s1)) (ja R))) ?_
  refine At.vn R R R R (jw R) R (fun hg2=>(does_len_str (jh R hg2) Tryz.underlying9)) ?_
  refine At.vn R R R R (jw R) R (fun hg3=>(jk (jh R hg3) (ji _ _) bin_leq)) ?_
  refine At.d R R R R (jm (ja R) (ja R) (jl _) vh) ?_
  refine At.d R R R R (jb (x:=(.tv kBool ((decide ((0:Int)<(s1.size:Int)))&&(decide ((s1.size:Int)≤(24:Int)))))) (ja R)) ?_
  refine At.vn R R R R (jw R) R (fun hg4=>(jb (x:=(.tv kStr s1)) (ja R))) ?_
  obtain ⟨hq3,hF⟩:=hF
  refine At.vn R R R R (jw R) R (fun hg5=>(does_index_str (jh R hg5) (ji _ _) Tryz.underlying9 (hq3 hg5))) ?_
  replace hF:=W.vq hF
  refine At.effG R R R R (jw R) hF (fun r=>.tv kBool r) (fun hg6 hF=>vr (jn R R jp (jq R en_154 (jf (jh R hg6) jg)) (zj.ok hF) (by rintro _ _ ⟨r,_,rfl,_⟩;exact vp)) (by rintro _ _ ⟨_,_,⟨r,hF,rfl,rfl⟩,rfl,rfl⟩;exact ⟨r,hF,R,R⟩)) (fun r3 hF=>?_)
  refine At.d R R R R (jm (ja R) (ja R) (jl _) vh) ?_
  refine At.d R R R R (jd (x:=(.tv kBool (((decide ((0:Int)<(s1.size:Int)))&&(decide ((s1.size:Int)≤(24:Int))))&&r3))) (ja R)) ?_
  refine At.done (At.vl (At.ret ?_))
  exact At.j rfl (rv_tmp rfl) [] rfl ⟨(((decide ((0:Int)<(s1.size:Int)))&&(decide ((s1.size:Int)≤(24:Int))))&&r3),hF,rfl,rfl⟩
def ref11_On.F (p1:Point):W Bool:=W.ret ((((decide ((0:Int)≤p1.X))&&(decide (p1.X<(1048576:Int))))&&(decide ((0:Int)≤p1.Y)))&&(decide (p1.Y<(1048576:Int))))
theorem ref11_On.ok {p1:Point} {Q:Bool→Prop} (hF:ref11_On.F p1 Q):Con Tryz.prog 123 [.tv kPoint p1] [] (fun ta rs'=>∃ (r:Bool),Q r∧ta=.tv kBool r∧rs'=[]):=by
 refine Con.i Tryz.func123 Tryz.ntmps123 R R (fun C=>?_)
 unfold ref11_On.F at hF
 refine At.seq (At.region (At.f R (jy R R R (ja R)) ?_))
 rintro _ _ ⟨g1,rfl,rfl⟩
 refine At.d R R R R (jd (x:=(.tv kBool false)) (jl _)) ?_
 refine At.done (At.vl (At.seq (At.region (At.d R R R R (je (ja R) wa) ?_))))
 refine At.d R R R R (jc (ja R) 0 R Vx ty_3) ?_
 refine At.d R R R R (jk (ja R) (ji _ _) bin_geq) ?_
 refine At.d R R R R (jb (x:=(.tv kBool (decide ((0:Int)≤p1.X)))) (ja R)) ?_
 refine At.vn R R R R (jw R) R (fun hg1=>(je (ja R) wa)) ?_
 refine At.vn R R R R (jw R) R (fun hg2=>(jc (jh R hg2) 0 R Vx ty_3)) ?_
 refine At.vn R R R R (jw R) R (fun hg3=>(jk (jh R hg3) (ji _ _) vg)) ?_
 refine At.d R R R R (jm (ja R) (ja R) (jl _) vh) ?_
 refine At.d R R R R (jb (x:=(.tv kBool ((decide ((0:Int)≤p1.X))&&(decide (p1.X<(1048576:Int)))))) (ja R)) ?_
 refine At.vn R R R R (jw R) R (fun hg4=>(je (ja R) zf)) ?_
 refine At.vn R R R R (jw R) R (fun hg5=>(jc (jh R hg5) 0 R qn ty_3)) ?_
 refine At.vn R R R R (jw R) R (fun hg6=>(jk (jh R hg6) (ji _ _) bin_geq)) ?_
 refine At.d R R R R (jm (ja R) (ja R) (jl _) vh) ?_
 refine At.d R R R R (jb (x:=(.tv kBool (((decide ((0:Int)≤p1.X))&&(decide (p1.X<(1048576:Int))))&&(decide ((0:Int)≤p1.Y))))) (ja R)) ?_
 refine At.vn R R R R (jw R) R (fun hg7=>(je (ja R) zf)) ?_
 refine At.vn R R R R (jw R) R (fun hg8=>(jc (jh R hg8) 0 R qn ty_3)) ?_
 refine At.vn R R R R (jw R) R (fun hg9=>(jk (jh R hg9) (ji _ _) vg)) ?_
 refine At.d R R R R (jm (ja R) (ja R) (jl _) vh) ?_
 refine At.d R R R R (jd (x:=(.tv kBool ((((decide ((0:Int)≤p1.X))&&(decide (p1.X<(1048576:Int))))&&(decide ((0:Int)≤p1.Y)))&&(decide (p1.Y<(1048576:Int)))))) (ja R)) ?_
 refine At.done (At.vl (At.ret ?_))
 exact At.j rfl (rv_tmp rfl) [] rfl ⟨((((decide ((0:Int)≤p1.X))&&(decide (p1.X<(1048576:Int))))&&(decide ((0:Int)≤p1.Y)))&&(decide (p1.Y<(1048576:Int)))),hF,rfl,rfl⟩
def wi.c1:W Bool:=W.ret true
def wi.l1 (l1:(List Tag)) (K1:W Bool) (A1:Int→W Bool) (i6:Int):W Bool:=W.ite (decide (i6<(l1.length:Int))) (W.req (0≤i6∧i6<(l1.length:Int)) (W.bind (qw.F ((rd zTag l1 i6).Key)) (fun r5=>W.req ((!(!r5))=true→0≤i6∧i6<(l1.length:Int)) (W.req ((!((!r5)||(decide ((((rd zTag l1 i6).Value).size:Int)<(1:Int)))))=true→0≤i6∧i6<(l1.length:Int)) (W.req (((!(((!r5)||(decide ((((rd zTag l1 i6).Value).size:Int)<(1:Int))))||(decide ((200:Int)<(((rd zTag l1 i6).Value).size:Int)))))&&(decide ((0:Int)<i6)))=true→0≤(w64 (i6-(1:Int)))∧(w64 (i6-(1:Int)))<(l1.length:Int)) (W.req (((!(((!r5)||(decide ((((rd zTag l1 i6).Value).size:Int)<(1:Int))))||(decide ((200:Int)<(((rd zTag l1 i6).Value).size:Int)))))&&(decide ((0:Int)<i6)))=true→0≤i6∧i6<(l1.length:Int)) (W.ite ((((!r5)||(decide ((((rd zTag l1 i6).Value).size:Int)<(1:Int))))||(decide ((200:Int)<(((rd zTag l1 i6).Value).size:Int))))||((decide ((0:Int)<i6))&&(!(sLt ((rd zTag l1 (w64 (i6-(1:Int)))).Key) ((rd zTag l1 i6).Key))))) (W.ret false) (A1 (w64 (i6+(1:Int))))))))))) (K1)
def wi.F (l1:(List Tag)):W Bool:=W.ite (decide ((60:Int)<(l1.length:Int))) (W.ret false) (W.ex fun n=>W.iter1 (wi.l1 l1 (wi.c1)) n (0:Int))
theorem wi.ok {l1:(List Tag)} {Q:Bool→Prop} (hF:wi.F l1 Q):Con Tryz.prog 126 [.tv (kSlice kTag) l1] [] (fun ta rs'=>∃ (r:Bool),Q r∧ta=.tv kBool r∧rs'=[]):=by
 refine Con.i Tryz.func126 Tryz.ntmps126 R R (fun C=>?_)
 unfold wi.F at hF
 refine At.seq (At.region (At.d R R R R (jd (x:=(.tv kBool false)) (jl _)) ?_))
 refine At.done (At.vl (At.seq (At.seq (At.region (At.d R R R R (jb (x:=(.tv (kSlice kTag) l1)) (ja R)) ?_)))))
 refine At.d R R R R (jt (ja R) Tryz.underlying57) ?_
 refine At.d R R R R (jk (ja R) (ji _ _) bin_gtr) ?_
 refine At.done (At.vl ?_)
 refine At.cond (ja R) (fun hb1=>?_) (fun hb1=>?_)
 ·replace hF:=W.ite_t hb1 hF
  refine At.seq (At.region (At.d R R R R (jd (x:=(.tv kBool false)) (jl _)) ?_))
  refine At.done (At.vl (At.ret (At.vm ?_)))
  exact At.j rfl (rv_tmp rfl) [] rfl ⟨false,hF,rfl,rfl⟩
 ·replace hF:=W.ite_f hb1 hF
  refine At.skip (At.vl ?_)
  refine At.cut (fun rs L=>∃ _:Unit,wi.c1 Q∧rs=[]∧L=mkL []) ?_ ?_
  ·refine At.seq (At.region (At.d R R R R (jd (x:=(.tv (kInt .i64) (0:Int))) (ji _ _)) ?_))
   refine At.done (At.vl (At.block ?_))
   obtain ⟨n1,hF⟩:=hF
   refine At.w [] R [(0,(.tv (kSlice kTag) l1)),(3,(.tv (kInt .i64) (0:Int)))] ⟨R,R,trivial⟩ ?_
   refine At.loop (fun m rs L=>∃ (i6:Int),W.iter1 (wi.l1 l1 (wi.c1)) m i6 Q∧rs=[]∧L=mkL [(0,(.tv (kSlice kTag) l1)),(3,(.tv (kInt .i64) i6))]) ?_ ?_ (m:=n1) ⟨(0:Int),hF,R,R⟩
   ·rintro rs L ⟨_,hF,_,_⟩;exact hF
   ·rintro m1 _ _ ⟨i6,hF,rfl,rfl⟩
    replace hF:=W.iter1_s hF
    unfold wi.l1 at hF
    refine At.seq (At.seq (At.region (At.d R R R R (jb (x:=(.tv (kInt .i64) i6)) (ja R)) ?_)))
    refine At.d R R R R (jb (x:=(.tv (kSlice kTag) l1)) (ja R)) ?_
    refine At.d R R R R (jt (ja R) Tryz.underlying57) ?_
    refine At.d R R R R (jk (ja R) (ja R) vg) ?_
    refine At.done (At.vl ?_)
    refine At.cond (ja R) (fun hb10=>?_) (fun hb10=>?_)
    ·replace hF:=W.ite_t hb10 hF
     refine At.skip (At.vl (At.seq (At.block (At.seq ?_))))
     refine At.draw mixed [] R [] (fun φ w hgd=>?_)
     obtain ⟨hq21,hF⟩:=hF
     replace hF:=W.vq hF
     refine AtH.take [] hgd 0 R R R R (D':=#[Y,N,N,N,N,N,N,N,N,N,N,N,N,N,N,N,N,N,N,N,N,N,N,N,N,N,N,N,N,N,N,N,N,N,N,N,N,N,N,N,N,N,N]) (by kernel_rfl) (fun _ _ _ _ h=>h) R (jb (x:=(.tv (kSlice kTag) l1)) (ja R)) ?_
     refine AtH.take [] hgd 1 R R R R (D':=#[Y,Y,N,N,N,N,N,N,N,N,N,N,N,N,N,N,N,N,N,N,N,N,N,N,N,N,N,N,N,N,N,N,N,N,N,N,N,N,N,N,N,N,N]) (by kernel_rfl) (fun _ _ _ _ h=>h) R (jb (x:=(.tv (kInt .i64) i6)) (ja R)) ?_
     refine AtH.take [] hgd 2 R R R R (D':=#[Y,Y,Y,N,N,N,N,N,N,N,N,N,N,N,N,N,N,N,N,N,N,N,N,N,N,N,N,N,N,N,N,N,N,N,N,N,N,N,N,N,N,N,N]) (by kernel_rfl) (fun _ _ _ _ h=>h) R (vj zTag (ja R) (ja R) Tryz.underlying57 ty_73 hq21) ?_
     refine AtH.take [] hgd 3 R R R R (D':=#[Y,Y,Y,Y,N,N,N,N,N,N,N,N,N,N,N,N,N,N,N,N,N,N,N,N,N,N,N,N,N,N,N,N,N,N,N,N,N,N,N,N,N,N,N]) (by kernel_rfl) (fun _ _ _ _ h=>h) R (Ji (K:=kTag) (ja R) fa_73_0 sub_Tag_0) ?_
     refine AtH.take [] hgd 4 R R R R (D':=#[Y,Y,Y,Y,Y,N,N,N,N,N,N,N,N,N,N,N,N,N,N,N,N,N,N,N,N,N,N,N,N,N,N,N,N,N,N,N,N,N,N,N,N,N,N]) (by kernel_rfl) (fun _ _ _ _ h=>h) R (vw (K:=kStr) (ja R) ty_9) ?_
     refine AtH.all1 5 (by kernel_rfl) ?_
     refine AtH.f [] R R R R R R (jn R R jp (jq R en_124 (jf (ja R) jg)) (qw.ok hF) (by rintro _ _ ⟨r,_,rfl,_⟩;exact vp)) (D':=#[Y,Y,Y,Y,Y,Y,N,N,N,N,N,N,N,N,N,N,N,N,N,N,N,N,N,N,N,N,N,N,N,N,N,N,N,N,N,N,N,N,N,N,N,N,N]) (by kernel_rfl) (by kernel_rfl) ?_
     rintro _ _ ⟨_,_,⟨r5,hF,rfl,rfl⟩,rfl,rfl⟩
     refine ⟨_,.inr ⟨R,vp⟩,?_⟩
     obtain ⟨hq22,hF⟩:=hF
     obtain ⟨hq23,hF⟩:=hF
     obtain ⟨hq24,hF⟩:=hF
     obtain ⟨hq25,hF⟩:=hF
     refine AtH.take [] hgd 6 R R R R (D':=#[Y,Y,Y,Y,Y,Y,Y,N,N,N,N,N,N,N,N,N,N,N,N,N,N,N,N,N,N,N,N,N,N,N,N,N,N,N,N,N,N,N,N,N,N,N,N]) (by kernel_rfl) (fun _ _ _ _ h=>h) R (ve (ja R)) ?_
     refine AtH.take [] hgd 7 R R R R (D':=#[Y,Y,Y,Y,Y,Y,Y,Y,N,N,N,N,N,N,N,N,N,N,N,N,N,N,N,N,N,N,N,N,N,N,N,N,N,N,N,N,N,N,N,N,N,N,N]) (by kernel_rfl) (fun _ _ _ _ h=>h) R (jb (x:=(.tv kBool (!r5))) (ja R)) ?_
     refine AtH.vo [] hgd 8 R R R (jx R) R R (D':=#[Y,Y,Y,Y,Y,Y,Y,Y,Y,N,N,N,N,N,N,N,N,N,N,N,N,N,N,N,N,N,N,N,N,N,N,N,N,N,N,N,N,N,N,N,N,N,N]) (by kernel_rfl) (fun _ _ _ _ h=>h) R (fun hg271=>(jb (x:=(.tv (kSlice kTag) l1)) (ja R))) ?_
     refine AtH.vo [] hgd 9 R R R (jx R) R R (D':=#[Y,Y,Y,Y,Y,Y,Y,Y,Y,Y,N,N,N,N,N,N,N,N,N,N,N,N,N,N,N,N,N,N,N,N,N,N,N,N,N,N,N,N,N,N,N,N,N]) (by kernel_rfl) (fun _ _ _ _ h=>h) R (fun hg272=>(jb (x:=(.tv (kInt .i64) i6)) (ja R))) ?_
     refine AtH.vo [] hgd 10 R R R (jx R) R R (D':=#[Y,Y,Y,Y,Y,Y,Y,Y,Y,Y,Y,N,N,N,N,N,N,N,N,N,N,N,N,N,N,N,N,N,N,N,N,N,N,N,N,N,N,N,N,N,N,N,N]) (by kernel_rfl) (fun _ _ _ _ h=>h) R (fun hg273=>(vj zTag (jh R hg273) (jh R hg273) Tryz.underlying57 ty_73 (hq22 hg273))) ?_
     refine AtH.vo [] hgd 11 R R R (jx R) R R (D':=#[Y,Y,Y,Y,Y,Y,Y,Y,Y,Y,Y,Y,N,N,N,N,N,N,N,N,N,N,N,N,N,N,N,N,N,N,N,N,N,N,N,N,N,N,N,N,N,N,N]) (by kernel_rfl) (fun _ _ _ _ h=>h) R (fun hg274=>(Ji (K:=kTag) (jh R hg274) fa_73_1 sub_Tag_1)) ?_
     refine AtH.vo [] hgd 12 R R R (jx R) R R (D':=#[Y,Y,Y,Y,Y,Y,Y,Y,Y,Y,Y,Y,Y,N,N,N,N,N,N,N,N,N,N,N,N,N,N,N,N,N,N,N,N,N,N,N,N,N,N,N,N,N,N]) (by kernel_rfl) (fun _ _ _ _ h=>h) R (fun hg275=>(vw (K:=kStr) (jh R hg275) ty_9)) ?_
     refine AtH.vo [] hgd 13 R R R (jx R) R R (D':=#[Y,Y,Y,Y,Y,Y,Y,Y,Y,Y,Y,Y,Y,Y,N,N,N,N,N,N,N,N,N,N,N,N,N,N,N,N,N,N,N,N,N,N,N,N,N,N,N,N,N]) (by kernel_rfl) (fun _ _ _ _ h=>h) R (fun hg276=>(does_len_str (jh R hg276) Tryz.underlying9)) ?_
     refine AtH.vo [] hgd 14 R R R (jx R) R R (D':=#[Y,Y,Y,Y,Y,Y,Y,Y,Y,Y,Y,Y,Y,Y,Y,N,N,N,N,N,N,N,N,N,N,N,N,N,N,N,N,N,N,N,N,N,N,N,N,N,N,N,N]) (by kernel_rfl) (fun _ _ _ _ h=>h) R (fun hg277=>(jk (jh R hg277) (ji _ _) vg)) ?_
     refine AtH.take [] hgd 15 R R R R (D':=#[Y,Y,Y,Y,Y,Y,Y,Y,Y,Y,Y,Y,Y,Y,Y,Y,N,N,N,N,N,N,N,N,N,N,N,N,N,N,N,N,N,N,N,N,N,N,N,N,N,N,N]) (by kernel_rfl) (fun _ _ _ _ h=>h) R (jm (ja R) (jl _) (ja R) vi) ?_
     refine AtH.take [] hgd 16 R R R R (D':=#[Y,Y,Y,Y,Y,Y,Y,Y,Y,Y,Y,Y,Y,Y,Y,Y,Y,N,N,N,N,N,N,N,N,N,N,N,N,N,N,N,N,N,N,N,N,N,N,N,N,N,N]) (by kernel_rfl) (fun _ _ _ _ h=>h) R (jb (x:=(.tv kBool ((!r5)||(decide ((((rd zTag l1 i6).Value).size:Int)<(1:Int)))))) (ja R)) ?_
     refine AtH.vo [] hgd 17 R R R (jx R) R R (D':=#[Y,Y,Y,Y,Y,Y,Y,Y,Y,Y,Y,Y,Y,Y,Y,Y,Y,Y,N,N,N,N,N,N,N,N,N,N,N,N,N,N,N,N,N,N,N,N,N,N,N,N,N]) (by kernel_rfl) (fun _ _ _ _ h=>h) R (fun hg278=>(jb (x:=(.tv (kSlice kTag) l1)) (ja R))) ?_
     refine AtH.vo [] hgd 18 R R R (jx R) R R (D':=#[Y,Y,Y,Y,Y,Y,Y,Y,Y,Y,Y,Y,Y,Y,Y,Y,Y,Y,Y,N,N,N,N,N,N,N,N,N,N,N,N,N,N,N,N,N,N,N,N,N,N,N,N]) (by kernel_rfl) (fun _ _ _ _ h=>h) R (fun hg279=>(jb (x:=(.tv (kInt .i64) i6)) (ja R))) ?_
     refine AtH.vo [] hgd 19 R R R (jx R) R R (D':=#[Y,Y,Y,Y,Y,Y,Y,Y,Y,Y,Y,Y,Y,Y,Y,Y,Y,Y,Y,Y,N,N,N,N,N,N,N,N,N,N,N,N,N,N,N,N,N,N,N,N,N,N,N]) (by kernel_rfl) (fun _ _ _ _ h=>h) R (fun hg280=>(vj zTag (jh R hg280) (jh R hg280) Tryz.underlying57 ty_73 (hq23 hg280))) ?_
     refine AtH.vo [] hgd 20 R R R (jx R) R R (D':=#[Y,Y,Y,Y,Y,Y,Y,Y,Y,Y,Y,Y,Y,Y,Y,Y,Y,Y,Y,Y,Y,N,N,N,N,N,N,N,N,N,N,N,N,N,N,N,N,N,N,N,N,N,N]) (by kernel_rfl) (fun _ _ _ _ h=>h) R (fun hg281=>(Ji (K:=kTag) (jh R hg281) fa_73_1 sub_Tag_1)) ?_
     refine AtH.vo [] hgd 21 R R R (jx R) R R (D':=#[Y,Y,Y,Y,Y,Y,Y,Y,Y,Y,Y,Y,Y,Y,Y,Y,Y,Y,Y,Y,Y,Y,N,N,N,N,N,N,N,N,N,N,N,N,N,N,N,N,N,N,N,N,N]) (by kernel_rfl) (fun _ _ _ _ h=>h) R (fun hg282=>(vw (K:=kStr) (jh R hg282) ty_9)) ?_
     refine AtH.vo [] hgd 22 R R R (jx R) R R (D':=#[Y,Y,Y,Y,Y,Y,Y,Y,Y,Y,Y,Y,Y,Y,Y,Y,Y,Y,Y,Y,Y,Y,Y,N,N,N,N,N,N,N,N,N,N,N,N,N,N,N,N,N,N,N,N]) (by kernel_rfl) (fun _ _ _ _ h=>h) R (fun hg283=>(does_len_str (jh R hg283) Tryz.underlying9)) ?_
     refine AtH.vo [] hgd 23 R R R (jx R) R R (D':=#[Y,Y,Y,Y,Y,Y,Y,Y,Y,Y,Y,Y,Y,Y,Y,Y,Y,Y,Y,Y,Y,Y,Y,Y,N,N,N,N,N,N,N,N,N,N,N,N,N,N,N,N,N,N,N]) (by kernel_rfl) (fun _ _ _ _ h=>h) R (fun hg284=>(jk (jh R hg284) (ji _ _) bin_gtr)) ?_
     refine AtH.take [] hgd 24 R R R R (D':=#[Y,Y,Y,Y,Y,Y,Y,Y,Y,Y,Y,Y,Y,Y,Y,Y,Y,Y,Y,Y,Y,Y,Y,Y,Y,N,N,N,N,N,N,N,N,N,N,N,N,N,N,N,N,N,N]) (by kernel_rfl) (fun _ _ _ _ h=>h) R (jm (ja R) (jl _) (ja R) vi) ?_
     refine AtH.take [] hgd 25 R R R R (D':=#[Y,Y,Y,Y,Y,Y,Y,Y,Y,Y,Y,Y,Y,Y,Y,Y,Y,Y,Y,Y,Y,Y,Y,Y,Y,Y,N,N,N,N,N,N,N,N,N,N,N,N,N,N,N,N,N]) (by kernel_rfl) (fun _ _ _ _ h=>h) R (jb (x:=(.tv kBool (((!r5)||(decide ((((rd zTag l1 i6).Value).size:Int)<(1:Int))))||(decide ((200:Int)<(((rd zTag l1 i6).Value).size:Int)))))) (ja R)) ?_
     refine AtH.vo [] hgd 26 R R R (jx R) R R (D':=#[Y,Y,Y,Y,Y,Y,Y,Y,Y,Y,Y,Y,Y,Y,Y,Y,Y,Y,Y,Y,Y,Y,Y,Y,Y,Y,Y,N,N,N,N,N,N,N,N,N,N,N,N,N,N,N,N]) (by kernel_rfl) (fun _ _ _ _ h=>h) R (fun hg285=>(jb (x:=(.tv (kInt .i64) i6)) (ja R))) ?_
     refine AtH.vo [] hgd 27 R R R (jx R) R R (D':=#[Y,Y,Y,Y,Y,Y,Y,Y,Y,Y,Y,Y,Y,Y,Y,Y,Y,Y,Y,Y,Y,Y,Y,Y,Y,Y,Y,Y,N,N,N,N,N,N,N,N,N,N,N,N,N,N,N]) (by kernel_rfl) (fun _ _ _ _ h=>h) R (fun hg286=>(jk (jh R hg286) (ji _ _) bin_gtr)) ?_
     refine AtH.vo [] hgd 28 R R R (jx R) R R (D':=#[Y,Y,Y,Y,Y,Y,Y,Y,Y,Y,Y,Y,Y,Y,Y,Y,Y,Y,Y,Y,Y,Y,Y,Y,Y,Y,Y,Y,Y,N,N,N,N,N,N,N,N,N,N,N,N,N,N]) (by kernel_rfl) (fun _ _ _ _ h=>h) R (fun hg287=>(jb (x:=(.tv kBool (decide ((0:Int)<i6)))) (jh R hg287))) ?_
     refine AtH.vo [] hgd 29 R R R (ju R) R R (D':=#[Y,Y,Y,Y,Y,Y,Y,Y,Y,Y,Y,Y,Y,Y,Y,Y,Y,Y,Y,Y,Y,Y,Y,Y,Y,Y,Y,Y,Y,Y,N,N,N,N,N,N,N,N,N,N,N,N,N]) (by kernel_rfl) (fun _ _ _ _ h=>h) R (fun hg288=>(jb (x:=(.tv (kSlice kTag) l1)) (ja R))) ?_
     refine AtH.vo [] hgd 30 R R R (ju R) R R (D':=#[Y,Y,Y,Y,Y,Y,Y,Y,Y,Y,Y,Y,Y,Y,Y,Y,Y,Y,Y,Y,Y,Y,Y,Y,Y,Y,Y,Y,Y,Y,Y,N,N,N,N,N,N,N,N,N,N,N,N]) (by kernel_rfl) (fun _ _ _ _ h=>h) R (fun hg289=>(jb (x:=(.tv (kInt .i64) i6)) (ja R))) ?_
     refine AtH.vo [] hgd 31 R R R (ju R) R R (D':=#[Y,Y,Y,Y,Y,Y,Y,Y,Y,Y,Y,Y,Y,Y,Y,Y,Y,Y,Y,Y,Y,Y,Y,Y,Y,Y,Y,Y,Y,Y,Y,Y,N,N,N,N,N,N,N,N,N,N,N]) (by kernel_rfl) (fun _ _ _ _ h=>h) R (fun hg290=>(jk (jh R hg290) (ji _ _) bin_sub)) ?_
     refine AtH.vo [] hgd 32 R R R (ju R) R R (D':=#[Y,Y,Y,Y,Y,Y,Y,Y,Y,Y,Y,Y,Y,Y,Y,Y,Y,Y,Y,Y,Y,Y,Y,Y,Y,Y,Y,Y,Y,Y,Y,Y,Y,N,N,N,N,N,N,N,N,N,N]) (by kernel_rfl) (fun _ _ _ _ h=>h) R (fun hg291=>(vj zTag (jh R hg291) (jh R hg291) Tryz.underlying57 ty_73 (hq24 hg291))) ?_
     refine AtH.vo [] hgd 33 R R R (ju R) R R (D':=#[Y,Y,Y,Y,Y,Y,Y,Y,Y,Y,Y,Y,Y,Y,Y,Y,Y,Y,Y,Y,Y,Y,Y,Y,Y,Y,Y,Y,Y,Y,Y,Y,Y,Y,N,N,N,N,N,N,N,N,N]) (by kernel_rfl) (fun _ _ _ _ h=>h) R (fun hg292=>(Ji (K:=kTag) (jh R hg292) fa_73_0 sub_Tag_0)) ?_
     refine AtH.vo [] hgd 34 R R R (ju R) R R (D':=#[Y,Y,Y,Y,Y,Y,Y,Y,Y,Y,Y,Y,Y,Y,Y,Y,Y,Y,Y,Y,Y,Y,Y,Y,Y,Y,Y,Y,Y,Y,Y,Y,Y,Y,Y,N,N,N,N,N,N,N,N]) (by kernel_rfl) (fun _ _ _ _ h=>h) R (fun hg293=>(vw (K:=kStr) (jh R hg293) ty_9)) ?_
     refine AtH.vo [] hgd 35 R R R (ju R) R R (D':=#[Y,Y,Y,Y,Y,Y,Y,Y,Y,Y,Y,Y,Y,Y,Y,Y,Y,Y,Y,Y,Y,Y,Y,Y,Y,Y,Y,Y,Y,Y,Y,Y,Y,Y,Y,Y,N,N,N,N,N,N,N]) (by kernel_rfl) (fun _ _ _ _ h=>h) R (fun hg294=>(jb (x:=(.tv (kSlice kTag) l1)) (ja R))) ?_
     refine AtH.vo [] hgd 36 R R R (ju R) R R (D':=#[Y,Y,Y,Y,Y,Y,Y,Y,Y,Y,Y,Y,Y,Y,Y,Y,Y,Y,Y,Y,Y,Y,Y,Y,Y,Y,Y,Y,Y,Y,Y,Y,Y,Y,Y,Y,Y,N,N,N,N,N,N]) (by kernel_rfl) (fun _ _ _ _ h=>h) R (fun hg295=>(jb (x:=(.tv (kInt .i64) i6)) (ja R))) ?_
     refine AtH.vo [] hgd 37 R R R (ju R) R R (D':=#[Y,Y,Y,Y,Y,Y,Y,Y,Y,Y,Y,Y,Y,Y,Y,Y,Y,Y,Y,Y,Y,Y,Y,Y,Y,Y,Y,Y,Y,Y,Y,Y,Y,Y,Y,Y,Y,Y,N,N,N,N,N]) (by kernel_rfl) (fun _ _ _ _ h=>h) R (fun hg296=>(vj zTag (jh R hg296) (jh R hg296) Tryz.underlying57 ty_73 (hq25 hg296))) ?_
     refine AtH.vo [] hgd 38 R R R (ju R) R R (D':=#[Y,Y,Y,Y,Y,Y,Y,Y,Y,Y,Y,Y,Y,Y,Y,Y,Y,Y,Y,Y,Y,Y,Y,Y,Y,Y,Y,Y,Y,Y,Y,Y,Y,Y,Y,Y,Y,Y,Y,N,N,N,N]) (by kernel_rfl) (fun _ _ _ _ h=>h) R (fun hg297=>(Ji (K:=kTag) (jh R hg297) fa_73_0 sub_Tag_0)) ?_
     refine AtH.vo [] hgd 39 R R R (ju R) R R (D':=#[Y,Y,Y,Y,Y,Y,Y,Y,Y,Y,Y,Y,Y,Y,Y,Y,Y,Y,Y,Y,Y,Y,Y,Y,Y,Y,Y,Y,Y,Y,Y,Y,Y,Y,Y,Y,Y,Y,Y,Y,N,N,N]) (by kernel_rfl) (fun _ _ _ _ h=>h) R (fun hg298=>(vw (K:=kStr) (jh R hg298) ty_9)) ?_
     refine AtH.vo [] hgd 40 R R R (ju R) R R (D':=#[Y,Y,Y,Y,Y,Y,Y,Y,Y,Y,Y,Y,Y,Y,Y,Y,Y,Y,Y,Y,Y,Y,Y,Y,Y,Y,Y,Y,Y,Y,Y,Y,Y,Y,Y,Y,Y,Y,Y,Y,Y,N,N]) (by kernel_rfl) (fun _ _ _ _ h=>h) R (fun hg299=>(jk (jh R hg299) (jh R hg299) bin_sgeq)) ?_
     refine AtH.vo [] hgd 41 R R R (jx R) R R (D':=#[Y,Y,Y,Y,Y,Y,Y,Y,Y,Y,Y,Y,Y,Y,Y,Y,Y,Y,Y,Y,Y,Y,Y,Y,Y,Y,Y,Y,Y,Y,Y,Y,Y,Y,Y,Y,Y,Y,Y,Y,Y,Y,N]) (by kernel_rfl) (fun _ _ _ _ h=>h) R (fun hg300=>(jm (jh R hg300) (ja R) (jl _) (pick_andG (and_of hg300)))) ?_
     refine AtH.take [] hgd 42 R R R R (D':=#[Y,Y,Y,Y,Y,Y,Y,Y,Y,Y,Y,Y,Y,Y,Y,Y,Y,Y,Y,Y,Y,Y,Y,Y,Y,Y,Y,Y,Y,Y,Y,Y,Y,Y,Y,Y,Y,Y,Y,Y,Y,Y,Y]) (by kernel_rfl) (fun _ _ _ _ h=>h) R (jm (ja R) (jl _) (ja R) vi) ?_
     refine AtH.done (by kernel_rfl) ?_
     refine At.vl ?_
     refine At.cond (ja R) (fun hb11=>?_) (fun hb11=>?_)
     ·replace hF:=W.ite_t hb11 hF
      refine At.seq (At.region (At.d R R R R (jd (x:=(.tv kBool false)) (jl _)) ?_))
      refine At.done (At.vl (At.ret ?_))
      refine At.q ?_
      refine At.vm (At.vm ?_)
      refine At.q ?_
      refine At.vm ?_
      exact At.j rfl (rv_tmp rfl) [] rfl ⟨false,hF,rfl,rfl⟩
     ·replace hF:=W.ite_f hb11 hF
      refine At.skip ?_
      refine At.n ?_
      refine At.vl (At.region (At.d R R R R (jb (x:=(.tv (kInt .i64) i6)) (ja R)) ?_))
      refine At.d R R R R (jk (ja R) (ji _ _) vf) ?_
      refine At.d R R R R (jd (x:=(.tv (kInt .i64) (w64 (i6+(1:Int))))) (ja R)) ?_
      refine At.done (At.vl ?_)
      refine At.w [] R [(0,(.tv (kSlice kTag) l1)),(3,(.tv (kInt .i64) (w64 (i6+(1:Int)))))] ⟨R,R,trivial⟩ (At.r ⟨(w64 (i6+(1:Int))),hF,R,R⟩)
    ·replace hF:=W.ite_f hb10 hF
     refine At.exit ?_
     refine At.x (At.x ?_)
     refine At.h ?_
     refine At.vl ?_
     refine At.w [] R [] trivial (At.r ⟨(),hF,R,R⟩)
  ·rintro _ _ ⟨_,hF,rfl,rfl⟩
   unfold wi.c1 at hF
   refine At.seq (At.region (At.d R R R R (jd (x:=(.tv kBool true)) (jl _)) ?_))
   refine At.done (At.vl (At.ret ?_))
   exact At.j rfl (rv_tmp rfl) [] rfl ⟨true,hF,rfl,rfl⟩
def ref11_Word.F (kind1:Int):W BA:=W.ite ((decide (kind1<(1:Int)))||(decide ((5:Int)<kind1))) (W.ret (⟨#[]⟩:BA)) (W.req (0≤kind1∧kind1<(([(⟨#[]⟩:BA),(⟨#[110,111,100,101]⟩:BA),(⟨#[119,97,121]⟩:BA),(⟨#[97,114,101,97]⟩:BA),(⟨#[114,111,117,116,101]⟩:BA),(⟨#[116,117,114,110]⟩:BA)]:List BA).length:Int)) (W.req (0≤kind1∧kind1<(([(⟨#[]⟩:BA),(⟨#[110,111,100,101]⟩:BA),(⟨#[119,97,121]⟩:BA),(⟨#[97,114,101,97]⟩:BA),(⟨#[114,111,117,116,101]⟩:BA),(⟨#[116,117,114,110]⟩:BA)]:List BA).length:Int)) (W.ret (rd (⟨#[]⟩:BA) ([(⟨#[]⟩:BA),(⟨#[110,111,100,101]⟩:BA),(⟨#[119,97,121]⟩:BA),(⟨#[97,114,101,97]⟩:BA),(⟨#[114,111,117,116,101]⟩:BA),(⟨#[116,117,114,110]⟩:BA)]:List BA) kind1))))
theorem ref11_Word.ok {kind1:Int} {Q:BA→Prop} (hF:ref11_Word.F kind1 Q):Con Tryz.prog 125 [.tv (kInt .i64) kind1] [] (fun ta rs'=>∃ (r:BA),Q r∧ta=.tv kStr r∧rs'=[]):=by
 refine Con.i Tryz.func125 Tryz.ntmps125 R R (fun C=>?_)
 unfold ref11_Word.F at hF
 refine At.seq (At.region (At.d R R R R (jd (x:=(.tv kStr (⟨#[]⟩:BA))) (vk _)) ?_))
 refine At.done (At.vl (At.seq (At.region (At.f R (vc R R R (os:=[.const (.string (⟨#[]⟩:BA)),.const (.string (⟨#[110,111,100,101]⟩:BA)),.const (.string (⟨#[119,97,121]⟩:BA)),.const (.string (⟨#[97,114,101,97]⟩:BA)),.const (.string (⟨#[114,111,117,116,101]⟩:BA)),.const (.string (⟨#[116,117,114,110]⟩:BA))]) R sl_41 (xs:=([(⟨#[]⟩:BA),(⟨#[110,111,100,101]⟩:BA),(⟨#[119,97,121]⟩:BA),(⟨#[97,114,101,97]⟩:BA),(⟨#[114,111,117,116,101]⟩:BA),(⟨#[116,117,114,110]⟩:BA)]:List BA)) (jf (vk _) (jf (vk _) (jf (vk _) (jf (vk _) (jf (vk _) (jf (vk _) jg)))))) R R) ?_))))
 rintro _ _ ⟨v1,rfl,rfl⟩
 refine At.d R R R R (jd (x:=(.eq v1)) (ja R)) ?_
 refine At.done (At.vl (At.seq (At.seq (At.region (At.d R R R R (jb (x:=(.tv (kInt .i64) kind1)) (ja R)) ?_)))))
 refine At.d R R R R (jk (ja R) (ji _ _) vg) ?_
 refine At.d R R R R (jb (x:=(.tv kBool (decide (kind1<(1:Int))))) (ja R)) ?_
 refine At.vn R R R R (jx R) R (fun hg1=>(jb (x:=(.tv (kInt .i64) kind1)) (ja R))) ?_
 refine At.vn R R R R (jx R) R (fun hg2=>(jk (jh R hg2) (ji _ _) bin_gtr)) ?_
 refine At.d R R R R (jm (ja R) (jl _) (ja R) vi) ?_
 refine At.done (At.vl ?_)
 refine At.cond (ja R) (fun hb1=>?_) (fun hb1=>?_)
 ·replace hF:=W.ite_t hb1 hF
  refine At.seq (At.region (At.d R R R R (jd (x:=(.tv kStr (⟨#[]⟩:BA))) (vk _)) ?_))
  refine At.done (At.vl (At.ret (At.vm ?_)))
  exact At.j rfl (rv_tmp rfl) [] rfl ⟨(⟨#[]⟩:BA),hF,rfl,rfl⟩
 ·replace hF:=W.ite_f hb1 hF
  refine At.skip (At.vl (At.seq (At.region (At.d R R R R (jb (x:=(.eq v1)) (ja R)) ?_))))
  refine At.d R R R R (jb (x:=(.tv (kInt .i64) kind1)) (ja R)) ?_
  obtain ⟨hq1,hF⟩:=hF
  refine At.d R R R R (does_idx_row (ja R) 0 R (ja R) Tryz.underlying41 ty_9 hq1) ?_
  obtain ⟨hq2,hF⟩:=hF
  refine At.d R R R R (Jh (ja R) 0 R kind1 0 R (⟨#[]⟩:BA) hq2 (Sub.self kStr) ty_9) ?_
  refine At.d R R R R (jd (x:=(.tv kStr (rd (⟨#[]⟩:BA) ([(⟨#[]⟩:BA),(⟨#[110,111,100,101]⟩:BA),(⟨#[119,97,121]⟩:BA),(⟨#[97,114,101,97]⟩:BA),(⟨#[114,111,117,116,101]⟩:BA),(⟨#[116,117,114,110]⟩:BA)]:List BA) kind1))) (ja R)) ?_
  refine At.done (At.vl (At.ret ?_))
  exact At.j rfl (rv_tmp rfl) [] rfl ⟨(rd (⟨#[]⟩:BA) ([(⟨#[]⟩:BA),(⟨#[110,111,100,101]⟩:BA),(⟨#[119,97,121]⟩:BA),(⟨#[97,114,101,97]⟩:BA),(⟨#[114,111,117,116,101]⟩:BA),(⟨#[116,117,114,110]⟩:BA)]:List BA) kind1),hF,rfl,rfl⟩
def wo.c1 (o1:Object):W Bool:=W.ite (o1.Kind==(1:Int)) (W.ret ((o1.Refs.length:Int)==(0:Int))) (W.ite (o1.Kind==(2:Int)) (W.ret (decide ((2:Int)≤(o1.Refs.length:Int)))) (W.ite (o1.Kind==(3:Int)) (W.ret (decide ((3:Int)≤(o1.Refs.length:Int)))) (W.ite (o1.Kind==(4:Int)) (W.ret (decide ((1:Int)≤(o1.Refs.length:Int)))) (W.ret ((o1.Refs.length:Int)==(3:Int))))))
def wo.l1 (o1:Object) (K1:W Bool) (A1:(List (BA×Bool))→Int→W Bool) (x6:(List (BA×Bool))) (i6:Int):W Bool:=W.ite (decide (i6<(o1.Refs.length:Int))) (W.req (0≤i6∧i6<(o1.Refs.length:Int)) (W.bind (qw.F (rd (⟨#[]⟩:BA) o1.Refs i6)) (fun r5=>W.req (((!(!r5))&&((o1.Kind==(2:Int))&&(decide ((0:Int)<i6))))=true→0≤(w64 (i6-(1:Int)))∧(w64 (i6-(1:Int)))<(o1.Refs.length:Int)) (W.req (((!(!r5))&&((o1.Kind==(2:Int))&&(decide ((0:Int)<i6))))=true→0≤i6∧i6<(o1.Refs.length:Int)) (W.req (((!((!r5)||(((o1.Kind==(2:Int))&&(decide ((0:Int)<i6)))&&(sEq (rd (⟨#[]⟩:BA) o1.Refs (w64 (i6-(1:Int)))) (rd (⟨#[]⟩:BA) o1.Refs i6)))))&&(o1.Kind==(3:Int)))=true→0≤i6∧i6<(o1.Refs.length:Int)) (W.ite (((!r5)||(((o1.Kind==(2:Int))&&(decide ((0:Int)<i6)))&&(sEq (rd (⟨#[]⟩:BA) o1.Refs (w64 (i6-(1:Int)))) (rd (⟨#[]⟩:BA) o1.Refs i6))))||((o1.Kind==(3:Int))&&(mget (rd (⟨#[]⟩:BA) o1.Refs i6) false x6))) (W.ret false) (W.req (0≤i6∧i6<(o1.Refs.length:Int)) (A1 (mset (rd (⟨#[]⟩:BA) o1.Refs i6) true x6) (w64 (i6+(1:Int))))))))))) (K1)
def wo.F (o1:Object):W Bool:=W.ite (decide ((2000:Int)<(o1.Refs.length:Int))) (W.ret false) (W.ex fun n=>W.iter2 (wo.l1 o1 (wo.c1 o1)) n ([]:(List (BA×Bool))) (0:Int))
theorem wo.ok {o1:Object} {Q:Bool→Prop} (hF:wo.F o1 Q):Con Tryz.prog 127 [.tv kObject o1] [] (fun ta rs'=>∃ (r:Bool),Q r∧ta=.tv kBool r∧rs'=[]):=by
 refine Con.i Tryz.func127 Tryz.ntmps127 R R (fun C=>?_)
 unfold wo.F at hF
 refine At.seq (At.region (At.f R (jy R R R (ja R)) ?_))
 rintro _ _ ⟨g1,rfl,rfl⟩
 refine At.d R R R R (jd (x:=(.tv kBool false)) (jl _)) ?_
 refine At.done (At.vl (At.seq (At.region (At.d R R R R (je (ja R) qz) ?_))))
 refine At.d R R R R (jc (ja R) 0 R Vl ty_41) ?_
 refine At.d R R R R (jt (ja R) Tryz.underlying41) ?_
 refine At.d R R R R (jd (x:=(.tv (kInt .i64) (o1.Refs.length:Int))) (ja R)) ?_
 refine At.done (At.vl (At.seq (At.seq (At.region (At.d R R R R (jb (x:=(.tv (kInt .i64) (o1.Refs.length:Int))) (ja R)) ?_)))))
 refine At.d R R R R (jk (ja R) (ji _ _) bin_gtr) ?_
 refine At.done (At.vl ?_)
 refine At.cond (ja R) (fun hb1=>?_) (fun hb1=>?_)
 ·replace hF:=W.ite_t hb1 hF
  refine At.seq (At.region (At.d R R R R (jd (x:=(.tv kBool false)) (jl _)) ?_))
  refine At.done (At.vl (At.ret (At.vm ?_)))
  exact At.j rfl (rv_tmp rfl) [] rfl ⟨false,hF,rfl,rfl⟩
 ·replace hF:=W.ite_f hb1 hF
  refine At.skip (At.vl (At.seq (At.region (At.f R (eff_makeMap R R R kStr kBool) ?_))))
  rintro _ _ ⟨g2,rfl,rfl⟩
  refine At.d R R R R (jd (x:=(.eq (.map (some g2)))) (ja R)) ?_
  refine At.done (At.vl ?_)
  refine At.cut (fun rs L=>∃ _:Unit,wo.c1 o1 Q∧rs=[.box g1 59 kObject o1]∧L=mkL [(1,(.eq (.pointer (some ⟨g1,0,none⟩)))),(3,(.tv (kInt .i64) (o1.Refs.length:Int)))]) ?_ ?_
  ·refine At.seq (At.region (At.d R R R R (jd (x:=(.tv (kInt .i64) (0:Int))) (ji _ _)) ?_))
   refine At.done (At.vl (At.block ?_))
   obtain ⟨n1,hF⟩:=hF
   refine At.w [1,0] R [(1,(.eq (.pointer (some ⟨g1,0,none⟩)))),(3,(.tv (kInt .i64) (o1.Refs.length:Int))),(4,(.eq (.map (some g2)))),(5,(.tv (kInt .i64) (0:Int)))] ⟨R,R,R,R,trivial⟩ ?_
   refine At.loop (fun m rs L=>∃ (x6:(List (BA×Bool))) (i6:Int),W.iter2 (wo.l1 o1 (wo.c1 o1)) m x6 i6 Q∧rs=[.box g1 59 kObject o1,.map g2 kStr kBool x6]∧L=mkL [(1,(.eq (.pointer (some ⟨g1,0,none⟩)))),(3,(.tv (kInt .i64) (o1.Refs.length:Int))),(4,(.eq (.map (some g2)))),(5,(.tv (kInt .i64) i6))]) ?_ ?_ (m:=n1) ⟨([]:(List (BA×Bool))),(0:Int),hF,R,R⟩
   ·rintro rs L ⟨_,_,hF,_,_⟩;exact hF
   ·rintro m1 _ _ ⟨x6,i6,hF,rfl,rfl⟩
    replace hF:=W.iter2_s hF
    unfold wo.l1 at hF
    refine At.seq (At.seq (At.region (At.d R R R R (jb (x:=(.tv (kInt .i64) i6)) (ja R)) ?_)))
    refine At.d R R R R (jb (x:=(.tv (kInt .i64) (o1.Refs.length:Int))) (ja R)) ?_
    refine At.d R R R R (jk (ja R) (ja R) vg) ?_
    refine At.done (At.vl ?_)
    refine At.cond (ja R) (fun hb14=>?_) (fun hb14=>?_)
    ·replace hF:=W.ite_t hb14 hF
     refine At.skip (At.vl (At.seq (At.block (At.seq (At.seq ?_)))))
     refine At.draw mixed [0,1] R [[],[]] (fun φ w hgd=>?_)
     obtain ⟨hq21,hF⟩:=hF
     replace hF:=W.vq hF
     refine AtH.take [0,1] hgd 0 R R R R (D':=#[Y,N,N,N,N,N,N,N,N,N,N,N,N,N,N,N,N,N,N,N,N,N,N,N,N,N,N,N,N,N,N,N,N,N,N,N,N,N,N,N,N,N,N,N]) (by kernel_rfl) (fun _ _ _ _ h=>h) R (je (ja R) qz) ?_
     refine AtH.take [0,1] hgd 1 R R R R (D':=#[Y,Y,N,N,N,N,N,N,N,N,N,N,N,N,N,N,N,N,N,N,N,N,N,N,N,N,N,N,N,N,N,N,N,N,N,N,N,N,N,N,N,N,N,N]) (by kernel_rfl) (fun _ _ _ _ h=>h) R (jc (ja R) 0 R Vl ty_41) ?_
     refine AtH.take [0,1] hgd 2 R R R R (D':=#[Y,Y,Y,N,N,N,N,N,N,N,N,N,N,N,N,N,N,N,N,N,N,N,N,N,N,N,N,N,N,N,N,N,N,N,N,N,N,N,N,N,N,N,N,N]) (by kernel_rfl) (fun _ _ _ _ h=>h) R (jb (x:=(.tv (kInt .i64) i6)) (ja R)) ?_
     refine AtH.take [0,1] hgd 3 R R R R (D':=#[Y,Y,Y,Y,N,N,N,N,N,N,N,N,N,N,N,N,N,N,N,N,N,N,N,N,N,N,N,N,N,N,N,N,N,N,N,N,N,N,N,N,N,N,N,N]) (by kernel_rfl) (fun _ _ _ _ h=>h) R (vj (⟨#[]⟩:BA) (ja R) (ja R) Tryz.underlying41 ty_9 hq21) ?_
     refine AtH.take [0,1] hgd 4 R R R R (D':=#[Y,Y,Y,Y,Y,N,N,N,N,N,N,N,N,N,N,N,N,N,N,N,N,N,N,N,N,N,N,N,N,N,N,N,N,N,N,N,N,N,N,N,N,N,N,N]) (by kernel_rfl) (fun _ _ _ _ h=>h) R (vw (K:=kStr) (ja R) ty_9) ?_
     refine AtH.all1 5 (by kernel_rfl) ?_
     refine AtH.f [(0,0),(1,1)] R R R R R R (jn R R jp (jq R en_124 (jf (ja R) jg)) (qw.ok hF) (by rintro _ _ ⟨r,_,rfl,_⟩;exact vp)) (D':=#[Y,Y,Y,Y,Y,Y,N,N,N,N,N,N,N,N,N,N,N,N,N,N,N,N,N,N,N,N,N,N,N,N,N,N,N,N,N,N,N,N,N,N,N,N,N,N]) (by kernel_rfl) (by kernel_rfl) ?_
     rintro _ _ ⟨_,_,⟨r5,hF,rfl,rfl⟩,rfl,rfl⟩
     refine ⟨_,.inr ⟨R,vp⟩,?_⟩
     obtain ⟨hq22,hF⟩:=hF
     obtain ⟨hq23,hF⟩:=hF
     obtain ⟨hq24,hF⟩:=hF
     refine AtH.take [0,1] hgd 6 R R R R (D':=#[Y,Y,Y,Y,Y,Y,Y,N,N,N,N,N,N,N,N,N,N,N,N,N,N,N,N,N,N,N,N,N,N,N,N,N,N,N,N,N,N,N,N,N,N,N,N,N]) (by kernel_rfl) (fun _ _ _ _ h=>h) R (ve (ja R)) ?_
     refine AtH.take [0,1] hgd 7 R R R R (D':=#[Y,Y,Y,Y,Y,Y,Y,Y,N,N,N,N,N,N,N,N,N,N,N,N,N,N,N,N,N,N,N,N,N,N,N,N,N,N,N,N,N,N,N,N,N,N,N,N]) (by kernel_rfl) (fun _ _ _ _ h=>h) R (jb (x:=(.tv kBool (!r5))) (ja R)) ?_
     refine AtH.vo [0,1] hgd 8 R R R (jx R) R R (D':=#[Y,Y,Y,Y,Y,Y,Y,Y,Y,N,N,N,N,N,N,N,N,N,N,N,N,N,N,N,N,N,N,N,N,N,N,N,N,N,N,N,N,N,N,N,N,N,N,N]) (by kernel_rfl) (fun _ _ _ _ h=>h) R (fun hg298=>(je (ja R) yj)) ?_
     refine AtH.vo [0,1] hgd 9 R R R (jx R) R R (D':=#[Y,Y,Y,Y,Y,Y,Y,Y,Y,Y,N,N,N,N,N,N,N,N,N,N,N,N,N,N,N,N,N,N,N,N,N,N,N,N,N,N,N,N,N,N,N,N,N,N]) (by kernel_rfl) (fun _ _ _ _ h=>h) R (fun hg299=>(jc (jh R hg299) 0 R qa ty_3)) ?_
     refine AtH.vo [0,1] hgd 10 R R R (jx R) R R (D':=#[Y,Y,Y,Y,Y,Y,Y,Y,Y,Y,Y,N,N,N,N,N,N,N,N,N,N,N,N,N,N,N,N,N,N,N,N,N,N,N,N,N,N,N,N,N,N,N,N,N]) (by kernel_rfl) (fun _ _ _ _ h=>h) R (fun hg300=>(jk (jh R hg300) (ji _ _) bin_eql)) ?_
     refine AtH.vo [0,1] hgd 11 R R R (jx R) R R (D':=#[Y,Y,Y,Y,Y,Y,Y,Y,Y,Y,Y,Y,N,N,N,N,N,N,N,N,N,N,N,N,N,N,N,N,N,N,N,N,N,N,N,N,N,N,N,N,N,N,N,N]) (by kernel_rfl) (fun _ _ _ _ h=>h) R (fun hg301=>(jb (x:=(.tv kBool (o1.Kind==(2:Int)))) (jh R hg301))) ?_
     refine AtH.vo [0,1] hgd 12 R R R (ju R) R R (D':=#[Y,Y,Y,Y,Y,Y,Y,Y,Y,Y,Y,Y,Y,N,N,N,N,N,N,N,N,N,N,N,N,N,N,N,N,N,N,N,N,N,N,N,N,N,N,N,N,N,N,N]) (by kernel_rfl) (fun _ _ _ _ h=>h) R (fun hg302=>(jb (x:=(.tv (kInt .i64) i6)) (ja R))) ?_
     refine AtH.vo [0,1] hgd 13 R R R (ju R) R R (D':=#[Y,Y,Y,Y,Y,Y,Y,Y,Y,Y,Y,Y,Y,Y,N,N,N,N,N,N,N,N,N,N,N,N,N,N,N,N,N,N,N,N,N,N,N,N,N,N,N,N,N,N]) (by kernel_rfl) (fun _ _ _ _ h=>h) R (fun hg303=>(jk (jh R hg303) (ji _ _) bin_gtr)) ?_
     refine AtH.vo [0,1] hgd 14 R R R (jx R) R R (D':=#[Y,Y,Y,Y,Y,Y,Y,Y,Y,Y,Y,Y,Y,Y,Y,N,N,N,N,N,N,N,N,N,N,N,N,N,N,N,N,N,N,N,N,N,N,N,N,N,N,N,N,N]) (by kernel_rfl) (fun _ _ _ _ h=>h) R (fun hg304=>(jm (jh R hg304) (ja R) (jl _) (pick_andG (and_of hg304)))) ?_
     refine AtH.vo [0,1] hgd 15 R R R (jx R) R R (D':=#[Y,Y,Y,Y,Y,Y,Y,Y,Y,Y,Y,Y,Y,Y,Y,Y,N,N,N,N,N,N,N,N,N,N,N,N,N,N,N,N,N,N,N,N,N,N,N,N,N,N,N,N]) (by kernel_rfl) (fun _ _ _ _ h=>h) R (fun hg305=>(jb (x:=(.tv kBool ((o1.Kind==(2:Int))&&(decide ((0:Int)<i6))))) (jh R hg305))) ?_
     refine AtH.vo [0,1] hgd 16 R R R (ju R) R R (D':=#[Y,Y,Y,Y,Y,Y,Y,Y,Y,Y,Y,Y,Y,Y,Y,Y,Y,N,N,N,N,N,N,N,N,N,N,N,N,N,N,N,N,N,N,N,N,N,N,N,N,N,N,N]) (by kernel_rfl) (fun _ _ _ _ h=>h) R (fun hg306=>(je (ja R) qz)) ?_
     refine AtH.vo [0,1] hgd 17 R R R (ju R) R R (D':=#[Y,Y,Y,Y,Y,Y,Y,Y,Y,Y,Y,Y,Y,Y,Y,Y,Y,Y,N,N,N,N,N,N,N,N,N,N,N,N,N,N,N,N,N,N,N,N,N,N,N,N,N,N]) (by kernel_rfl) (fun _ _ _ _ h=>h) R (fun hg307=>(jc (jh R hg307) 0 R Vl ty_41)) ?_
     refine AtH.vo [0,1] hgd 18 R R R (ju R) R R (D':=#[Y,Y,Y,Y,Y,Y,Y,Y,Y,Y,Y,Y,Y,Y,Y,Y,Y,Y,Y,N,N,N,N,N,N,N,N,N,N,N,N,N,N,N,N,N,N,N,N,N,N,N,N,N]) (by kernel_rfl) (fun _ _ _ _ h=>h) R (fun hg308=>(jb (x:=(.tv (kInt .i64) i6)) (ja R))) ?_
     refine AtH.vo [0,1] hgd 19 R R R (ju R) R R (D':=#[Y,Y,Y,Y,Y,Y,Y,Y,Y,Y,Y,Y,Y,Y,Y,Y,Y,Y,Y,Y,N,N,N,N,N,N,N,N,N,N,N,N,N,N,N,N,N,N,N,N,N,N,N,N]) (by kernel_rfl) (fun _ _ _ _ h=>h) R (fun hg309=>(jk (jh R hg309) (ji _ _) bin_sub)) ?_
     refine AtH.vo [0,1] hgd 20 R R R (ju R) R R (D':=#[Y,Y,Y,Y,Y,Y,Y,Y,Y,Y,Y,Y,Y,Y,Y,Y,Y,Y,Y,Y,Y,N,N,N,N,N,N,N,N,N,N,N,N,N,N,N,N,N,N,N,N,N,N,N]) (by kernel_rfl) (fun _ _ _ _ h=>h) R (fun hg310=>(vj (⟨#[]⟩:BA) (jh R hg310) (jh R hg310) Tryz.underlying41 ty_9 (hq22 hg310))) ?_
     refine AtH.vo [0,1] hgd 21 R R R (ju R) R R (D':=#[Y,Y,Y,Y,Y,Y,Y,Y,Y,Y,Y,Y,Y,Y,Y,Y,Y,Y,Y,Y,Y,Y,N,N,N,N,N,N,N,N,N,N,N,N,N,N,N,N,N,N,N,N,N,N]) (by kernel_rfl) (fun _ _ _ _ h=>h) R (fun hg311=>(vw (K:=kStr) (jh R hg311) ty_9)) ?_
     refine AtH.vo [0,1] hgd 22 R R R (ju R) R R (D':=#[Y,Y,Y,Y,Y,Y,Y,Y,Y,Y,Y,Y,Y,Y,Y,Y,Y,Y,Y,Y,Y,Y,Y,N,N,N,N,N,N,N,N,N,N,N,N,N,N,N,N,N,N,N,N,N]) (by kernel_rfl) (fun _ _ _ _ h=>h) R (fun hg312=>(je (ja R) qz)) ?_
     refine AtH.vo [0,1] hgd 23 R R R (ju R) R R (D':=#[Y,Y,Y,Y,Y,Y,Y,Y,Y,Y,Y,Y,Y,Y,Y,Y,Y,Y,Y,Y,Y,Y,Y,Y,N,N,N,N,N,N,N,N,N,N,N,N,N,N,N,N,N,N,N,N]) (by kernel_rfl) (fun _ _ _ _ h=>h) R (fun hg313=>(jc (jh R hg313) 0 R Vl ty_41)) ?_
     refine AtH.vo [0,1] hgd 24 R R R (ju R) R R (D':=#[Y,Y,Y,Y,Y,Y,Y,Y,Y,Y,Y,Y,Y,Y,Y,Y,Y,Y,Y,Y,Y,Y,Y,Y,Y,N,N,N,N,N,N,N,N,N,N,N,N,N,N,N,N,N,N,N]) (by kernel_rfl) (fun _ _ _ _ h=>h) R (fun hg314=>(jb (x:=(.tv (kInt .i64) i6)) (ja R))) ?_
     refine AtH.vo [0,1] hgd 25 R R R (ju R) R R (D':=#[Y,Y,Y,Y,Y,Y,Y,Y,Y,Y,Y,Y,Y,Y,Y,Y,Y,Y,Y,Y,Y,Y,Y,Y,Y,Y,N,N,N,N,N,N,N,N,N,N,N,N,N,N,N,N,N,N]) (by kernel_rfl) (fun _ _ _ _ h=>h) R (fun hg315=>(vj (⟨#[]⟩:BA) (jh R hg315) (jh R hg315) Tryz.underlying41 ty_9 (hq23 hg315))) ?_
     refine AtH.vo [0,1] hgd 26 R R R (ju R) R R (D':=#[Y,Y,Y,Y,Y,Y,Y,Y,Y,Y,Y,Y,Y,Y,Y,Y,Y,Y,Y,Y,Y,Y,Y,Y,Y,Y,Y,N,N,N,N,N,N,N,N,N,N,N,N,N,N,N,N,N]) (by kernel_rfl) (fun _ _ _ _ h=>h) R (fun hg316=>(vw (K:=kStr) (jh R hg316) ty_9)) ?_
     refine AtH.vo [0,1] hgd 27 R R R (ju R) R R (D':=#[Y,Y,Y,Y,Y,Y,Y,Y,Y,Y,Y,Y,Y,Y,Y,Y,Y,Y,Y,Y,Y,Y,Y,Y,Y,Y,Y,Y,N,N,N,N,N,N,N,N,N,N,N,N,N,N,N,N]) (by kernel_rfl) (fun _ _ _ _ h=>h) R (fun hg317=>(jk (jh R hg317) (jh R hg317) bin_seql)) ?_
     refine AtH.vo [0,1] hgd 28 R R R (jx R) R R (D':=#[Y,Y,Y,Y,Y,Y,Y,Y,Y,Y,Y,Y,Y,Y,Y,Y,Y,Y,Y,Y,Y,Y,Y,Y,Y,Y,Y,Y,Y,N,N,N,N,N,N,N,N,N,N,N,N,N,N,N]) (by kernel_rfl) (fun _ _ _ _ h=>h) R (fun hg318=>(jm (jh R hg318) (ja R) (jl _) (pick_andG (and_of hg318)))) ?_
     refine AtH.take [0,1] hgd 29 R R R R (D':=#[Y,Y,Y,Y,Y,Y,Y,Y,Y,Y,Y,Y,Y,Y,Y,Y,Y,Y,Y,Y,Y,Y,Y,Y,Y,Y,Y,Y,Y,Y,N,N,N,N,N,N,N,N,N,N,N,N,N,N]) (by kernel_rfl) (fun _ _ _ _ h=>h) R (jm (ja R) (jl _) (ja R) vi) ?_
     refine AtH.take [0,1] hgd 30 R R R R (D':=#[Y,Y,Y,Y,Y,Y,Y,Y,Y,Y,Y,Y,Y,Y,Y,Y,Y,Y,Y,Y,Y,Y,Y,Y,Y,Y,Y,Y,Y,Y,Y,N,N,N,N,N,N,N,N,N,N,N,N,N]) (by kernel_rfl) (fun _ _ _ _ h=>h) R (jb (x:=(.tv kBool ((!r5)||(((o1.Kind==(2:Int))&&(decide ((0:Int)<i6)))&&(sEq (rd (⟨#[]⟩:BA) o1.Refs (w64 (i6-(1:Int)))) (rd (⟨#[]⟩:BA) o1.Refs i6)))))) (ja R)) ?_
     refine AtH.vo [0,1] hgd 31 R R R (jx R) R R (D':=#[Y,Y,Y,Y,Y,Y,Y,Y,Y,Y,Y,Y,Y,Y,Y,Y,Y,Y,Y,Y,Y,Y,Y,Y,Y,Y,Y,Y,Y,Y,Y,Y,N,N,N,N,N,N,N,N,N,N,N,N]) (by kernel_rfl) (fun _ _ _ _ h=>h) R (fun hg319=>(je (ja R) yj)) ?_
     refine AtH.vo [0,1] hgd 32 R R R (jx R) R R (D':=#[Y,Y,Y,Y,Y,Y,Y,Y,Y,Y,Y,Y,Y,Y,Y,Y,Y,Y,Y,Y,Y,Y,Y,Y,Y,Y,Y,Y,Y,Y,Y,Y,Y,N,N,N,N,N,N,N,N,N,N,N]) (by kernel_rfl) (fun _ _ _ _ h=>h) R (fun hg320=>(jc (jh R hg320) 0 R qa ty_3)) ?_
     refine AtH.vo [0,1] hgd 33 R R R (jx R) R R (D':=#[Y,Y,Y,Y,Y,Y,Y,Y,Y,Y,Y,Y,Y,Y,Y,Y,Y,Y,Y,Y,Y,Y,Y,Y,Y,Y,Y,Y,Y,Y,Y,Y,Y,Y,N,N,N,N,N,N,N,N,N,N]) (by kernel_rfl) (fun _ _ _ _ h=>h) R (fun hg321=>(jk (jh R hg321) (ji _ _) bin_eql)) ?_
     refine AtH.vo [0,1] hgd 34 R R R (jx R) R R (D':=#[Y,Y,Y,Y,Y,Y,Y,Y,Y,Y,Y,Y,Y,Y,Y,Y,Y,Y,Y,Y,Y,Y,Y,Y,Y,Y,Y,Y,Y,Y,Y,Y,Y,Y,Y,N,N,N,N,N,N,N,N,N]) (by kernel_rfl) (fun _ _ _ _ h=>h) R (fun hg322=>(jb (x:=(.tv kBool (o1.Kind==(3:Int)))) (jh R hg322))) ?_
     refine AtH.vo [0,1] hgd 35 R R R (ju R) R R (D':=#[Y,Y,Y,Y,Y,Y,Y,Y,Y,Y,Y,Y,Y,Y,Y,Y,Y,Y,Y,Y,Y,Y,Y,Y,Y,Y,Y,Y,Y,Y,Y,Y,Y,Y,Y,Y,N,N,N,N,N,N,N,N]) (by kernel_rfl) (fun _ _ _ _ h=>h) R (fun hg323=>(jb (x:=(.eq (.map (some g2)))) (ja R))) ?_
     refine AtH.vo [0,1] hgd 36 R R R (ju R) R R (D':=#[Y,Y,Y,Y,Y,Y,Y,Y,Y,Y,Y,Y,Y,Y,Y,Y,Y,Y,Y,Y,Y,Y,Y,Y,Y,Y,Y,Y,Y,Y,Y,Y,Y,Y,Y,Y,Y,N,N,N,N,N,N,N]) (by kernel_rfl) (fun _ _ _ _ h=>h) R (fun hg324=>(je (ja R) qz)) ?_
     refine AtH.vo [0,1] hgd 37 R R R (ju R) R R (D':=#[Y,Y,Y,Y,Y,Y,Y,Y,Y,Y,Y,Y,Y,Y,Y,Y,Y,Y,Y,Y,Y,Y,Y,Y,Y,Y,Y,Y,Y,Y,Y,Y,Y,Y,Y,Y,Y,Y,N,N,N,N,N,N]) (by kernel_rfl) (fun _ _ _ _ h=>h) R (fun hg325=>(jc (jh R hg325) 0 R Vl ty_41)) ?_
     refine AtH.vo [0,1] hgd 38 R R R (ju R) R R (D':=#[Y,Y,Y,Y,Y,Y,Y,Y,Y,Y,Y,Y,Y,Y,Y,Y,Y,Y,Y,Y,Y,Y,Y,Y,Y,Y,Y,Y,Y,Y,Y,Y,Y,Y,Y,Y,Y,Y,Y,N,N,N,N,N]) (by kernel_rfl) (fun _ _ _ _ h=>h) R (fun hg326=>(jb (x:=(.tv (kInt .i64) i6)) (ja R))) ?_
     refine AtH.vo [0,1] hgd 39 R R R (ju R) R R (D':=#[Y,Y,Y,Y,Y,Y,Y,Y,Y,Y,Y,Y,Y,Y,Y,Y,Y,Y,Y,Y,Y,Y,Y,Y,Y,Y,Y,Y,Y,Y,Y,Y,Y,Y,Y,Y,Y,Y,Y,Y,N,N,N,N]) (by kernel_rfl) (fun _ _ _ _ h=>h) R (fun hg327=>(vj (⟨#[]⟩:BA) (jh R hg327) (jh R hg327) Tryz.underlying41 ty_9 (hq24 hg327))) ?_
     refine AtH.vo [0,1] hgd 40 R R R (ju R) R R (D':=#[Y,Y,Y,Y,Y,Y,Y,Y,Y,Y,Y,Y,Y,Y,Y,Y,Y,Y,Y,Y,Y,Y,Y,Y,Y,Y,Y,Y,Y,Y,Y,Y,Y,Y,Y,Y,Y,Y,Y,Y,Y,N,N,N]) (by kernel_rfl) (fun _ _ _ _ h=>h) R (fun hg328=>(vw (K:=kStr) (jh R hg328) ty_9)) ?_
     refine AtH.vo [0,1] hgd 41 R R R (ju R) R R (D':=#[Y,Y,Y,Y,Y,Y,Y,Y,Y,Y,Y,Y,Y,Y,Y,Y,Y,Y,Y,Y,Y,Y,Y,Y,Y,Y,Y,Y,Y,Y,Y,Y,Y,Y,Y,Y,Y,Y,Y,Y,Y,Y,N,N]) (by kernel_rfl) (fun _ _ _ _ h=>h) R (fun hg329=>(does_look (jh R hg329) 1 R mt_56 (jh R hg329))) ?_
     refine AtH.vo [0,1] hgd 42 R R R (jx R) R R (D':=#[Y,Y,Y,Y,Y,Y,Y,Y,Y,Y,Y,Y,Y,Y,Y,Y,Y,Y,Y,Y,Y,Y,Y,Y,Y,Y,Y,Y,Y,Y,Y,Y,Y,Y,Y,Y,Y,Y,Y,Y,Y,Y,Y,N]) (by kernel_rfl) (fun _ _ _ _ h=>h) R (fun hg330=>(jm (jh R hg330) (ja R) (jl _) (pick_andG (and_of hg330)))) ?_
     refine AtH.take [0,1] hgd 43 R R R R (D':=#[Y,Y,Y,Y,Y,Y,Y,Y,Y,Y,Y,Y,Y,Y,Y,Y,Y,Y,Y,Y,Y,Y,Y,Y,Y,Y,Y,Y,Y,Y,Y,Y,Y,Y,Y,Y,Y,Y,Y,Y,Y,Y,Y,Y]) (by kernel_rfl) (fun _ _ _ _ h=>h) R (jm (ja R) (jl _) (ja R) vi) ?_
     refine AtH.done (by kernel_rfl) ?_
     refine At.vl ?_
     refine At.cond (ja R) (fun hb15=>?_) (fun hb15=>?_)
     ·replace hF:=W.ite_t hb15 hF
      refine At.seq (At.region (At.d R R R R (jd (x:=(.tv kBool false)) (jl _)) ?_))
      refine At.done (At.vl (At.ret (At.vm ?_)))
      refine At.q ?_
      refine At.vm (At.vm ?_)
      refine At.q ?_
      refine At.vm ?_
      exact At.j rfl (rv_tmp rfl) [] rfl ⟨false,hF,rfl,rfl⟩
     ·replace hF:=W.ite_f hb15 hF
      refine At.skip (At.vl (At.region (At.d R R R R (jb (x:=(.eq (.map (some g2)))) (ja R)) ?_)))
      refine At.d R R R R (je (ja R) qz) ?_
      refine At.d R R R R (jc (ja R) 0 R Vl ty_41) ?_
      refine At.d R R R R (jb (x:=(.tv (kInt .i64) i6)) (ja R)) ?_
      obtain ⟨hq25,hF⟩:=hF
      refine At.d R R R R (vj (⟨#[]⟩:BA) (ja R) (ja R) Tryz.underlying41 ty_9 hq25) ?_
      refine At.d R R R R (vw (K:=kStr) (ja R) ty_9) ?_
      refine At.f R (eff_mapUpdate R R (ja R) 1 R mt_56 (ja R) (jl _)) ?_
      rintro _ _ ⟨rfl,rfl⟩
      refine At.done ?_
      refine At.n ?_
      refine At.vl (At.region (At.d R R R R (jb (x:=(.tv (kInt .i64) i6)) (ja R)) ?_))
      refine At.d R R R R (jk (ja R) (ji _ _) vf) ?_
      refine At.d R R R R (jd (x:=(.tv (kInt .i64) (w64 (i6+(1:Int))))) (ja R)) ?_
      refine At.done (At.vl ?_)
      refine At.w [0,1] R [(1,(.eq (.pointer (some ⟨g1,0,none⟩)))),(3,(.tv (kInt .i64) (o1.Refs.length:Int))),(4,(.eq (.map (some g2)))),(5,(.tv (kInt .i64) (w64 (i6+(1:Int)))))] ⟨R,R,R,R,trivial⟩ (At.r ⟨(mset (rd (⟨#[]⟩:BA) o1.Refs i6) true x6),(w64 (i6+(1:Int))),hF,R,R⟩)
    ·replace hF:=W.ite_f hb14 hF
     refine At.exit ?_
     refine At.x (At.x ?_)
     refine At.h ?_
     refine At.vl ?_
     refine At.w [0] R [(1,(.eq (.pointer (some ⟨g1,0,none⟩)))),(3,(.tv (kInt .i64) (o1.Refs.length:Int)))] ⟨R,R,trivial⟩ (At.r ⟨(),hF,R,R⟩)
  ·rintro _ _ ⟨_,hF,rfl,rfl⟩
   unfold wo.c1 at hF
   refine At.seq (At.seq (At.region (At.d R R R R (je (ja R) yj) ?_)))
   refine At.d R R R R (jc (ja R) 0 R qa ty_3) ?_
   refine At.done (At.vl (At.block (At.seq (At.region (At.d R R R R (jk (ja R) (ji _ _) bin_eql) ?_)))))
   refine At.d R R R R (jd (x:=(.tv kBool (o1.Kind==(1:Int)))) (ja R)) ?_
   refine At.done (At.vl ?_)
   refine At.cond (ja R) (fun hb6=>?_) (fun hb6=>?_)
   ·replace hF:=W.ite_t hb6 hF
    refine At.seq (At.region (At.d R R R R (jb (x:=(.tv (kInt .i64) (o1.Refs.length:Int))) (ja R)) ?_))
    refine At.d R R R R (jk (ja R) (ji _ _) bin_eql) ?_
    refine At.d R R R R (jd (x:=(.tv kBool ((o1.Refs.length:Int)==(0:Int)))) (ja R)) ?_
    refine At.done (At.vl (At.ret ?_))
    refine At.q ?_
    refine At.vm ?_
    exact At.j rfl (rv_tmp rfl) [] rfl ⟨((o1.Refs.length:Int)==(0:Int)),hF,rfl,rfl⟩
   ·replace hF:=W.ite_f hb6 hF
    refine At.seq (At.region (At.d R R R R (jk (ja R) (ji _ _) bin_eql) ?_))
    refine At.d R R R R (jd (x:=(.tv kBool (o1.Kind==(2:Int)))) (ja R)) ?_
    refine At.done (At.vl ?_)
    refine At.cond (ja R) (fun hb7=>?_) (fun hb7=>?_)
    ·replace hF:=W.ite_t hb7 hF
     refine At.seq (At.region (At.d R R R R (jb (x:=(.tv (kInt .i64) (o1.Refs.length:Int))) (ja R)) ?_))
     refine At.d R R R R (jk (ja R) (ji _ _) bin_geq) ?_
     refine At.d R R R R (jd (x:=(.tv kBool (decide ((2:Int)≤(o1.Refs.length:Int))))) (ja R)) ?_
     refine At.done (At.vl (At.ret ?_))
     refine At.q ?_
     refine At.vm ?_
     exact At.j rfl (rv_tmp rfl) [] rfl ⟨(decide ((2:Int)≤(o1.Refs.length:Int))),hF,rfl,rfl⟩
    ·replace hF:=W.ite_f hb7 hF
     refine At.seq (At.region (At.d R R R R (jk (ja R) (ji _ _) bin_eql) ?_))
     refine At.d R R R R (jd (x:=(.tv kBool (o1.Kind==(3:Int)))) (ja R)) ?_
     refine At.done (At.vl ?_)
     refine At.cond (ja R) (fun hb8=>?_) (fun hb8=>?_)
     ·replace hF:=W.ite_t hb8 hF
      refine At.seq (At.region (At.d R R R R (jb (x:=(.tv (kInt .i64) (o1.Refs.length:Int))) (ja R)) ?_))
      refine At.d R R R R (jk (ja R) (ji _ _) bin_geq) ?_
      refine At.d R R R R (jd (x:=(.tv kBool (decide ((3:Int)≤(o1.Refs.length:Int))))) (ja R)) ?_
      refine At.done (At.vl (At.ret ?_))
      refine At.q ?_
      refine At.vm ?_
      exact At.j rfl (rv_tmp rfl) [] rfl ⟨(decide ((3:Int)≤(o1.Refs.length:Int))),hF,rfl,rfl⟩
     ·replace hF:=W.ite_f hb8 hF
      refine At.seq (At.region (At.d R R R R (jk (ja R) (ji _ _) bin_eql) ?_))
      refine At.d R R R R (jd (x:=(.tv kBool (o1.Kind==(4:Int)))) (ja R)) ?_
      refine At.done (At.vl ?_)
      refine At.cond (ja R) (fun hb9=>?_) (fun hb9=>?_)
      ·replace hF:=W.ite_t hb9 hF
       refine At.seq (At.region (At.d R R R R (jb (x:=(.tv (kInt .i64) (o1.Refs.length:Int))) (ja R)) ?_))
       refine At.d R R R R (jk (ja R) (ji _ _) bin_geq) ?_
       refine At.d R R R R (jd (x:=(.tv kBool (decide ((1:Int)≤(o1.Refs.length:Int))))) (ja R)) ?_
       refine At.done (At.vl (At.ret ?_))
       refine At.q ?_
       refine At.vm ?_
       exact At.j rfl (rv_tmp rfl) [] rfl ⟨(decide ((1:Int)≤(o1.Refs.length:Int))),hF,rfl,rfl⟩
      ·replace hF:=W.ite_f hb9 hF
       refine At.skip ?_
       refine At.n ?_
       refine At.vl (At.seq (At.region (At.d R R R R (jb (x:=(.tv (kInt .i64) (o1.Refs.length:Int))) (ja R)) ?_)))
       refine At.d R R R R (jk (ja R) (ji _ _) bin_eql) ?_
       refine At.d R R R R (jd (x:=(.tv kBool ((o1.Refs.length:Int)==(3:Int)))) (ja R)) ?_
       refine At.done (At.vl (At.ret ?_))
       exact At.j rfl (rv_tmp rfl) [] rfl ⟨((o1.Refs.length:Int)==(3:Int)),hF,rfl,rfl⟩
def yb.c1 (o1:Object) (at1:Bool):W Bool:=W.bind (qw.F o1.Id) (fun r2=>W.bind (W.ite r2 (ref11_Word.F o1.Kind) (W.ret (⟨#[]⟩:BA))) (fun r3=>W.bind (W.ite ((r2&&(!(sEq r3 (⟨#[]⟩:BA))))&&at1) (wi.F o1.Tags) (W.ret false)) (fun r4=>W.bind (W.ite (((r2&&(!(sEq r3 (⟨#[]⟩:BA))))&&at1)&&r4) (wo.F o1) (W.ret false)) (fun r5=>W.ret ((((r2&&(!(sEq r3 (⟨#[]⟩:BA))))&&at1)&&r4)&&r5)))))
def yb.F (o1:Object):W Bool:=W.bind (ref11_On.F o1.At) (fun r1=>W.ite (o1.Kind != (1:Int)) ((yb.c1 o1) (Vg o1.At (⟨(0:Int),(0:Int)⟩:Point))) ((yb.c1 o1) r1))
theorem yb.ok {o1:Object} {Q:Bool→Prop} (hF:yb.F o1 Q):Con Tryz.prog 75 [.tv kObject o1] [] (fun ta rs'=>∃ (r:Bool),Q r∧ta=.tv kBool r∧rs'=[]):=by
 refine Con.i Tryz.func75 Tryz.ntmps75 R R (fun C=>?_)
 unfold yb.F at hF
 refine At.seq (At.region (At.f R (jy R R R (ja R)) ?_))
 rintro _ _ ⟨g1,rfl,rfl⟩
 refine At.d R R R R (jd (x:=(.tv kBool false)) (jl _)) ?_
 refine At.done (At.vl (At.seq (At.region (At.d R R R R (je (ja R) jb6) ?_))))
 refine At.d R R R R (jc (ja R) 0 R wm ty_37) ?_
 replace hF:=W.vq hF
 refine At.f R (jn R R jp (jq R en_123 (jf (ja R) jg)) (ref11_On.ok hF) (by rintro _ _ ⟨r,_,rfl,_⟩;exact vp)) ?_
 rintro _ _ ⟨_,_,⟨r1,hF,rfl,rfl⟩,rfl,rfl⟩
 refine At.d R R R R (jd (x:=(.tv kBool r1)) (ja R)) ?_
 refine At.done (At.vl ?_)
 refine At.cut (fun rs L=>∃ (at1:Bool),yb.c1 o1 at1 Q∧rs=[.box g1 59 kObject o1]∧L=mkL [(1,(.eq (.pointer (some ⟨g1,0,none⟩)))),(3,(.tv kBool at1))]) ?_ ?_
 ·refine At.seq (At.region (At.d R R R R (je (ja R) yj) ?_))
  refine At.d R R R R (jc (ja R) 0 R qa ty_3) ?_
  refine At.d R R R R (jk (ja R) (ji _ _) bin_neq) ?_
  refine At.done (At.vl ?_)
  refine At.cond (ja R) (fun hb2=>?_) (fun hb2=>?_)
  ·replace hF:=W.ite_t hb2 hF
   refine At.region (At.d R R R R (je (ja R) jb6) ?_)
   refine At.d R R R R (jc (ja R) 0 R wm ty_37) ?_
   refine At.d R R R R (vd js zr_37 bd_37 R fills_nil) ?_
   refine At.d R R R R (jk (ja R) (ja R) (bin_eq jb3)) ?_
   refine At.d R R R R (jd (x:=(.tv kBool (Vg o1.At (⟨(0:Int),(0:Int)⟩:Point)))) (ja R)) ?_
   refine At.done (At.vl ?_)
   refine At.w [0] R [(1,(.eq (.pointer (some ⟨g1,0,none⟩)))),(3,(.tv kBool (Vg o1.At (⟨(0:Int),(0:Int)⟩:Point))))] ⟨R,R,trivial⟩ (At.r ⟨(Vg o1.At (⟨(0:Int),(0:Int)⟩:Point)),hF,R,R⟩)
  ·replace hF:=W.ite_f hb2 hF
   refine At.skip (At.vl ?_)
   refine At.w [0] R [(1,(.eq (.pointer (some ⟨g1,0,none⟩)))),(3,(.tv kBool r1))] ⟨R,R,trivial⟩ (At.r ⟨r1,hF,R,R⟩)
 ·rintro _ _ ⟨at1,hF,rfl,rfl⟩
  unfold yb.c1 at hF
  refine At.seq (At.region (At.d R R R R (je (ja R) zg) ?_))
  refine At.d R R R R (jc (ja R) 0 R qm ty_9) ?_
  replace hF:=W.vq hF
  refine At.f R (jn R R jp (jq R en_124 (jf (ja R) jg)) (qw.ok hF) (by rintro _ _ ⟨r,_,rfl,_⟩;exact vp)) ?_
  rintro _ _ ⟨_,_,⟨r2,hF,rfl,rfl⟩,rfl,rfl⟩
  refine At.d R R R R (jb (x:=(.tv kBool r2)) (ja R)) ?_
  refine At.vn R R R R (jw R) R (fun hg1=>(je (ja R) yj)) ?_
  refine At.vn R R R R (jw R) R (fun hg2=>(jc (jh R hg2) 0 R qa ty_3)) ?_
  replace hF:=W.vq hF
  refine At.effG R R R R (jw R) hF (fun r=>.tv kStr r) (fun hg3 hF=>vr (jn R R jp (jq R en_125 (jf (jh R hg3) jg)) (ref11_Word.ok hF) (by rintro _ _ ⟨r,_,rfl,_⟩;exact flat_str)) (by rintro _ _ ⟨_,_,⟨r,hF,rfl,rfl⟩,rfl,rfl⟩;exact ⟨r,hF,R,R⟩)) (fun r3 hF=>?_)
  refine At.vn R R R R (jw R) R (fun hg4=>(jk (jh R hg4) (vk _) bin_sneq)) ?_
  refine At.d R R R R (jm (ja R) (ja R) (jl _) vh) ?_
  refine At.d R R R R (jb (x:=(.tv kBool (r2&&(!(sEq r3 (⟨#[]⟩:BA)))))) (ja R)) ?_
  refine At.vn R R R R (jw R) R (fun hg5=>(jb (x:=(.tv kBool at1)) (ja R))) ?_
  refine At.d R R R R (jm (ja R) (ja R) (jl _) vh) ?_
  refine At.d R R R R (jb (x:=(.tv kBool ((r2&&(!(sEq r3 (⟨#[]⟩:BA))))&&at1))) (ja R)) ?_
  refine At.vn R R R R (jw R) R (fun hg6=>(je (ja R) fa_59_4)) ?_
  refine At.vn R R R R (jw R) R (fun hg7=>(jc (jh R hg7) 0 R zw ty_57)) ?_
  replace hF:=W.vq hF
  refine At.effG R R R R (jw R) hF (fun r=>.tv kBool r) (fun hg8 hF=>vr (jn R R jp (jq R en_126 (jf (jh R hg8) jg)) (wi.ok hF) (by rintro _ _ ⟨r,_,rfl,_⟩;exact vp)) (by rintro _ _ ⟨_,_,⟨r,hF,rfl,rfl⟩,rfl,rfl⟩;exact ⟨r,hF,R,R⟩)) (fun r4 hF=>?_)
  refine At.d R R R R (jm (ja R) (ja R) (jl _) vh) ?_
  refine At.d R R R R (jb (x:=(.tv kBool (((r2&&(!(sEq r3 (⟨#[]⟩:BA))))&&at1)&&r4))) (ja R)) ?_
  refine At.vn R R R R (jw R) R (fun hg9=>(jc (ja R) 0 R (Sub.self kObject) ty_59)) ?_
  replace hF:=W.vq hF
  refine At.effG R R R R (jw R) hF (fun r=>.tv kBool r) (fun hg10 hF=>vr (jn R R jp (jq R en_127 (jf (jh R hg10) jg)) (wo.ok hF) (by rintro _ _ ⟨r,_,rfl,_⟩;exact vp)) (by rintro _ _ ⟨_,_,⟨r,hF,rfl,rfl⟩,rfl,rfl⟩;exact ⟨r,hF,R,R⟩)) (fun r5 hF=>?_)
  refine At.d R R R R (jm (ja R) (ja R) (jl _) vh) ?_
  refine At.d R R R R (jd (x:=(.tv kBool ((((r2&&(!(sEq r3 (⟨#[]⟩:BA))))&&at1)&&r4)&&r5))) (ja R)) ?_
  refine At.done (At.vl (At.ret ?_))
  exact At.j rfl (rv_tmp rfl) [] rfl ⟨((((r2&&(!(sEq r3 (⟨#[]⟩:BA))))&&at1)&&r4)&&r5),hF,rfl,rfl⟩
def qy.c1:W Bool:=W.ret true
def qy.l1 (m1:Map) (K1:W Bool) (A1:Int→W Bool) (i6:Int):W Bool:=W.ite (decide (i6<(m1.Objects.length:Int))) (W.req (0≤i6∧i6<(m1.Objects.length:Int)) (W.bind (yb.F (rd zObject m1.Objects i6)) (fun r5=>W.req (((!(!r5))&&(decide ((0:Int)<i6)))=true→0≤(w64 (i6-(1:Int)))∧(w64 (i6-(1:Int)))<(m1.Objects.length:Int)) (W.req (((!(!r5))&&(decide ((0:Int)<i6)))=true→0≤i6∧i6<(m1.Objects.length:Int)) (W.ite ((!r5)||((decide ((0:Int)<i6))&&(!(sLt ((rd zObject m1.Objects (w64 (i6-(1:Int)))).Id) ((rd zObject m1.Objects i6).Id))))) (W.ret false) (A1 (w64 (i6+(1:Int))))))))) (K1)
def qy.F (m1:Map):W Bool:=W.ite (decide ((1000000:Int)<(m1.Objects.length:Int))) (W.ret false) (W.ex fun n=>W.iter1 (qy.l1 m1 (qy.c1)) n (0:Int))
theorem qy.ok {m1:Map} {Q:Bool→Prop} (hF:qy.F m1 Q):Con Tryz.prog 47 [.tv kMap m1] [] (fun ta rs'=>∃ (r:Bool),Q r∧ta=.tv kBool r∧rs'=[]):=by
 refine Con.i Tryz.func47 Tryz.ntmps47 R R (fun C=>?_)
 unfold qy.F at hF
 refine At.seq (At.region (At.f R (jy R R R (ja R)) ?_))
 rintro _ _ ⟨g1,rfl,rfl⟩
 refine At.d R R R R (jd (x:=(.tv kBool false)) (jl _)) ?_
 refine At.done (At.vl (At.seq (At.seq (At.region (At.d R R R R (je (ja R) qq) ?_)))))
 refine At.d R R R R (jc (ja R) 0 R qc ty_22) ?_
 refine At.d R R R R (jt (ja R) Tryz.underlying22) ?_
 refine At.d R R R R (jk (ja R) (ji _ _) bin_gtr) ?_
 refine At.done (At.vl ?_)
 refine At.cond (ja R) (fun hb1=>?_) (fun hb1=>?_)
 ·replace hF:=W.ite_t hb1 hF
  refine At.seq (At.region (At.d R R R R (jd (x:=(.tv kBool false)) (jl _)) ?_))
  refine At.done (At.vl (At.ret (At.vm ?_)))
  exact At.j rfl (rv_tmp rfl) [] rfl ⟨false,hF,rfl,rfl⟩
 ·replace hF:=W.ite_f hb1 hF
  refine At.skip (At.vl ?_)
  refine At.cut (fun rs L=>∃ _:Unit,qy.c1 Q∧rs=[]∧L=mkL []) ?_ ?_
  ·refine At.seq (At.region (At.d R R R R (jd (x:=(.tv (kInt .i64) (0:Int))) (ji _ _)) ?_))
   refine At.done (At.vl (At.block ?_))
   obtain ⟨n1,hF⟩:=hF
   refine At.w [0] R [(1,(.eq (.pointer (some ⟨g1,0,none⟩)))),(3,(.tv (kInt .i64) (0:Int)))] ⟨R,R,trivial⟩ ?_
   refine At.loop (fun m rs L=>∃ (i6:Int),W.iter1 (qy.l1 m1 (qy.c1)) m i6 Q∧rs=[.box g1 24 kMap m1]∧L=mkL [(1,(.eq (.pointer (some ⟨g1,0,none⟩)))),(3,(.tv (kInt .i64) i6))]) ?_ ?_ (m:=n1) ⟨(0:Int),hF,R,R⟩
   ·rintro rs L ⟨_,hF,_,_⟩;exact hF
   ·rintro m2 _ _ ⟨i6,hF,rfl,rfl⟩
    replace hF:=W.iter1_s hF
    unfold qy.l1 at hF
    refine At.seq (At.seq (At.region (At.d R R R R (jb (x:=(.tv (kInt .i64) i6)) (ja R)) ?_)))
    refine At.d R R R R (je (ja R) qq) ?_
    refine At.d R R R R (jc (ja R) 0 R qc ty_22) ?_
    refine At.d R R R R (jt (ja R) Tryz.underlying22) ?_
    refine At.d R R R R (jk (ja R) (ja R) vg) ?_
    refine At.done (At.vl ?_)
    refine At.cond (ja R) (fun hb10=>?_) (fun hb10=>?_)
    ·replace hF:=W.ite_t hb10 hF
     refine At.skip (At.vl (At.seq (At.block (At.seq ?_))))
     refine At.draw mixed [0] R [[]] (fun φ w hgd=>?_)
     obtain ⟨hq13,hF⟩:=hF
     replace hF:=W.vq hF
     refine AtH.take [0] hgd 0 R R R R (D':=#[Y,N,N,N,N,N,N,N,N,N,N,N,N,N,N,N,N,N,N,N,N,N,N,N,N,N,N]) (by kernel_rfl) (fun _ _ _ _ h=>h) R (je (ja R) qq) ?_
     refine AtH.take [0] hgd 1 R R R R (D':=#[Y,Y,N,N,N,N,N,N,N,N,N,N,N,N,N,N,N,N,N,N,N,N,N,N,N,N,N]) (by kernel_rfl) (fun _ _ _ _ h=>h) R (jc (ja R) 0 R qc ty_22) ?_
     refine AtH.take [0] hgd 2 R R R R (D':=#[Y,Y,Y,N,N,N,N,N,N,N,N,N,N,N,N,N,N,N,N,N,N,N,N,N,N,N,N]) (by kernel_rfl) (fun _ _ _ _ h=>h) R (jb (x:=(.tv (kInt .i64) i6)) (ja R)) ?_
     refine AtH.take [0] hgd 3 R R R R (D':=#[Y,Y,Y,Y,N,N,N,N,N,N,N,N,N,N,N,N,N,N,N,N,N,N,N,N,N,N,N]) (by kernel_rfl) (fun _ _ _ _ h=>h) R (vj zObject (ja R) (ja R) Tryz.underlying22 ty_59 hq13) ?_
     refine AtH.take [0] hgd 4 R R R R (D':=#[Y,Y,Y,Y,Y,N,N,N,N,N,N,N,N,N,N,N,N,N,N,N,N,N,N,N,N,N,N]) (by kernel_rfl) (fun _ _ _ _ h=>h) R (vw (K:=kObject) (ja R) ty_59) ?_
     refine AtH.all1 5 (by kernel_rfl) ?_
     refine AtH.f [(0,0)] R R R R R R (jn R R jp (jq R en_75 (jf (ja R) jg)) (yb.ok hF) (by rintro _ _ ⟨r,_,rfl,_⟩;exact vp)) (D':=#[Y,Y,Y,Y,Y,Y,N,N,N,N,N,N,N,N,N,N,N,N,N,N,N,N,N,N,N,N,N]) (by kernel_rfl) (by kernel_rfl) ?_
     rintro _ _ ⟨_,_,⟨r5,hF,rfl,rfl⟩,rfl,rfl⟩
     refine ⟨_,.inr ⟨R,vp⟩,?_⟩
     obtain ⟨hq14,hF⟩:=hF
     obtain ⟨hq15,hF⟩:=hF
     refine AtH.take [0] hgd 6 R R R R (D':=#[Y,Y,Y,Y,Y,Y,Y,N,N,N,N,N,N,N,N,N,N,N,N,N,N,N,N,N,N,N,N]) (by kernel_rfl) (fun _ _ _ _ h=>h) R (ve (ja R)) ?_
     refine AtH.take [0] hgd 7 R R R R (D':=#[Y,Y,Y,Y,Y,Y,Y,Y,N,N,N,N,N,N,N,N,N,N,N,N,N,N,N,N,N,N,N]) (by kernel_rfl) (fun _ _ _ _ h=>h) R (jb (x:=(.tv kBool (!r5))) (ja R)) ?_
     refine AtH.vo [0] hgd 8 R R R (jx R) R R (D':=#[Y,Y,Y,Y,Y,Y,Y,Y,Y,N,N,N,N,N,N,N,N,N,N,N,N,N,N,N,N,N,N]) (by kernel_rfl) (fun _ _ _ _ h=>h) R (fun hg163=>(jb (x:=(.tv (kInt .i64) i6)) (ja R))) ?_
     refine AtH.vo [0] hgd 9 R R R (jx R) R R (D':=#[Y,Y,Y,Y,Y,Y,Y,Y,Y,Y,N,N,N,N,N,N,N,N,N,N,N,N,N,N,N,N,N]) (by kernel_rfl) (fun _ _ _ _ h=>h) R (fun hg164=>(jk (jh R hg164) (ji _ _) bin_gtr)) ?_
     refine AtH.vo [0] hgd 10 R R R (jx R) R R (D':=#[Y,Y,Y,Y,Y,Y,Y,Y,Y,Y,Y,N,N,N,N,N,N,N,N,N,N,N,N,N,N,N,N]) (by kernel_rfl) (fun _ _ _ _ h=>h) R (fun hg165=>(jb (x:=(.tv kBool (decide ((0:Int)<i6)))) (jh R hg165))) ?_
     refine AtH.vo [0] hgd 11 R R R (ju R) R R (D':=#[Y,Y,Y,Y,Y,Y,Y,Y,Y,Y,Y,Y,N,N,N,N,N,N,N,N,N,N,N,N,N,N,N]) (by kernel_rfl) (fun _ _ _ _ h=>h) R (fun hg166=>(je (ja R) qq)) ?_
     refine AtH.vo [0] hgd 12 R R R (ju R) R R (D':=#[Y,Y,Y,Y,Y,Y,Y,Y,Y,Y,Y,Y,Y,N,N,N,N,N,N,N,N,N,N,N,N,N,N]) (by kernel_rfl) (fun _ _ _ _ h=>h) R (fun hg167=>(jc (jh R hg167) 0 R qc ty_22)) ?_
     refine AtH.vo [0] hgd 13 R R R (ju R) R R (D':=#[Y,Y,Y,Y,Y,Y,Y,Y,Y,Y,Y,Y,Y,Y,N,N,N,N,N,N,N,N,N,N,N,N,N]) (by kernel_rfl) (fun _ _ _ _ h=>h) R (fun hg168=>(jb (x:=(.tv (kInt .i64) i6)) (ja R))) ?_
     refine AtH.vo [0] hgd 14 R R R (ju R) R R (D':=#[Y,Y,Y,Y,Y,Y,Y,Y,Y,Y,Y,Y,Y,Y,Y,N,N,N,N,N,N,N,N,N,N,N,N]) (by kernel_rfl) (fun _ _ _ _ h=>h) R (fun hg169=>(jk (jh R hg169) (ji _ _) bin_sub)) ?_
     refine AtH.vo [0] hgd 15 R R R (ju R) R R (D':=#[Y,Y,Y,Y,Y,Y,Y,Y,Y,Y,Y,Y,Y,Y,Y,Y,N,N,N,N,N,N,N,N,N,N,N]) (by kernel_rfl) (fun _ _ _ _ h=>h) R (fun hg170=>(vj zObject (jh R hg170) (jh R hg170) Tryz.underlying22 ty_59 (hq14 hg170))) ?_
     refine AtH.vo [0] hgd 16 R R R (ju R) R R (D':=#[Y,Y,Y,Y,Y,Y,Y,Y,Y,Y,Y,Y,Y,Y,Y,Y,Y,N,N,N,N,N,N,N,N,N,N]) (by kernel_rfl) (fun _ _ _ _ h=>h) R (fun hg171=>(Ji (K:=kObject) (jh R hg171) zg qm)) ?_
     refine AtH.vo [0] hgd 17 R R R (ju R) R R (D':=#[Y,Y,Y,Y,Y,Y,Y,Y,Y,Y,Y,Y,Y,Y,Y,Y,Y,Y,N,N,N,N,N,N,N,N,N]) (by kernel_rfl) (fun _ _ _ _ h=>h) R (fun hg172=>(vw (K:=kStr) (jh R hg172) ty_9)) ?_
     refine AtH.vo [0] hgd 18 R R R (ju R) R R (D':=#[Y,Y,Y,Y,Y,Y,Y,Y,Y,Y,Y,Y,Y,Y,Y,Y,Y,Y,Y,N,N,N,N,N,N,N,N]) (by kernel_rfl) (fun _ _ _ _ h=>h) R (fun hg173=>(je (ja R) qq)) ?_
     refine AtH.vo [0] hgd 19 R R R (ju R) R R (D':=#[Y,Y,Y,Y,Y,Y,Y,Y,Y,Y,Y,Y,Y,Y,Y,Y,Y,Y,Y,Y,N,N,N,N,N,N,N]) (by kernel_rfl) (fun _ _ _ _ h=>h) R (fun hg174=>(jc (jh R hg174) 0 R qc ty_22)) ?_
     refine AtH.vo [0] hgd 20 R R R (ju R) R R (D':=#[Y,Y,Y,Y,Y,Y,Y,Y,Y,Y,Y,Y,Y,Y,Y,Y,Y,Y,Y,Y,Y,N,N,N,N,N,N]) (by kernel_rfl) (fun _ _ _ _ h=>h) R (fun hg175=>(jb (x:=(.tv (kInt .i64) i6)) (ja R))) ?_
     refine AtH.vo [0] hgd 21 R R R (ju R) R R (D':=#[Y,Y,Y,Y,Y,Y,Y,Y,Y,Y,Y,Y,Y,Y,Y,Y,Y,Y,Y,Y,Y,Y,N,N,N,N,N]) (by kernel_rfl) (fun _ _ _ _ h=>h) R (fun hg176=>(vj zObject (jh R hg176) (jh R hg176) Tryz.underlying22 ty_59 (hq15 hg176))) ?_
     refine AtH.vo [0] hgd 22 R R R (ju R) R R (D':=#[Y,Y,Y,Y,Y,Y,Y,Y,Y,Y,Y,Y,Y,Y,Y,Y,Y,Y,Y,Y,Y,Y,Y,N,N,N,N]) (by kernel_rfl) (fun _ _ _ _ h=>h) R (fun hg177=>(Ji (K:=kObject) (jh R hg177) zg qm)) ?_
     refine AtH.vo [0] hgd 23 R R R (ju R) R R (D':=#[Y,Y,Y,Y,Y,Y,Y,Y,Y,Y,Y,Y,Y,Y,Y,Y,Y,Y,Y,Y,Y,Y,Y,Y,N,N,N]) (by kernel_rfl) (fun _ _ _ _ h=>h) R (fun hg178=>(vw (K:=kStr) (jh R hg178) ty_9)) ?_
     refine AtH.vo [0] hgd 24 R R R (ju R) R R (D':=#[Y,Y,Y,Y,Y,Y,Y,Y,Y,Y,Y,Y,Y,Y,Y,Y,Y,Y,Y,Y,Y,Y,Y,Y,Y,N,N]) (by kernel_rfl) (fun _ _ _ _ h=>h) R (fun hg179=>(jk (jh R hg179) (jh R hg179) bin_sgeq)) ?_
     refine AtH.vo [0] hgd 25 R R R (jx R) R R (D':=#[Y,Y,Y,Y,Y,Y,Y,Y,Y,Y,Y,Y,Y,Y,Y,Y,Y,Y,Y,Y,Y,Y,Y,Y,Y,Y,N]) (by kernel_rfl) (fun _ _ _ _ h=>h) R (fun hg180=>(jm (jh R hg180) (ja R) (jl _) (pick_andG (and_of hg180)))) ?_
     refine AtH.take [0] hgd 26 R R R R (D':=#[Y,Y,Y,Y,Y,Y,Y,Y,Y,Y,Y,Y,Y,Y,Y,Y,Y,Y,Y,Y,Y,Y,Y,Y,Y,Y,Y]) (by kernel_rfl) (fun _ _ _ _ h=>h) R (jm (ja R) (jl _) (ja R) vi) ?_
     refine AtH.done (by kernel_rfl) ?_
     refine At.vl ?_
     refine At.cond (ja R) (fun hb11=>?_) (fun hb11=>?_)
     ·replace hF:=W.ite_t hb11 hF
      refine At.seq (At.region (At.d R R R R (jd (x:=(.tv kBool false)) (jl _)) ?_))
      refine At.done (At.vl (At.ret ?_))
      refine At.q ?_
      refine At.vm (At.vm ?_)
      refine At.q ?_
      refine At.vm ?_
      exact At.j rfl (rv_tmp rfl) [] rfl ⟨false,hF,rfl,rfl⟩
     ·replace hF:=W.ite_f hb11 hF
      refine At.skip ?_
      refine At.n ?_
      refine At.vl (At.region (At.d R R R R (jb (x:=(.tv (kInt .i64) i6)) (ja R)) ?_))
      refine At.d R R R R (jk (ja R) (ji _ _) vf) ?_
      refine At.d R R R R (jd (x:=(.tv (kInt .i64) (w64 (i6+(1:Int))))) (ja R)) ?_
      refine At.done (At.vl ?_)
      refine At.w [0] R [(1,(.eq (.pointer (some ⟨g1,0,none⟩)))),(3,(.tv (kInt .i64) (w64 (i6+(1:Int)))))] ⟨R,R,trivial⟩ (At.r ⟨(w64 (i6+(1:Int))),hF,R,R⟩)
    ·replace hF:=W.ite_f hb10 hF
     refine At.exit ?_
     refine At.x (At.x ?_)
     refine At.h ?_
     refine At.vl ?_
     refine At.w [] R [] trivial (At.r ⟨(),hF,R,R⟩)
  ·rintro _ _ ⟨_,hF,rfl,rfl⟩
   unfold qy.c1 at hF
   refine At.seq (At.region (At.d R R R R (jd (x:=(.tv kBool true)) (jl _)) ?_))
   refine At.done (At.vl (At.ret ?_))
   exact At.j rfl (rv_tmp rfl) [] rfl ⟨true,hF,rfl,rfl⟩
def Vj.c2 (id1:BA) (at4:Int) (x2:(List Jr)):W (List Jr):=W.req (0≤at4∧at4<(x2.length:Int)) (W.req (0≤at4∧at4<(x2.length:Int)) (W.req ((!((((rd Je x2 at4).Owners).length:Int)==(0:Int)))=true→0≤at4∧at4<(x2.length:Int)) (W.req ((!((((rd Je x2 at4).Owners).length:Int)==(0:Int)))=true→0≤at4∧at4<(x2.length:Int)) (W.req ((!((((rd Je x2 at4).Owners).length:Int)==(0:Int)))=true→0≤(w64 ((((rd Je x2 at4).Owners).length:Int)-(1:Int)))∧(w64 ((((rd Je x2 at4).Owners).length:Int)-(1:Int)))<(((rd Je x2 at4).Owners).length:Int)) (W.ite (((((rd Je x2 at4).Owners).length:Int)==(0:Int))||(!(sEq (rd (⟨#[]⟩:BA) ((rd Je x2 at4).Owners) (w64 ((((rd Je x2 at4).Owners).length:Int)-(1:Int)))) id1))) (W.req (0≤at4∧at4<(x2.length:Int)) (W.req (0≤at4∧at4<(x2.length:Int)) (W.req ((([]:List BA).length+((rd Je x2 at4).Owners).length)*16≤140737488355328∧([]:List BA).length+((rd Je x2 at4).Owners).length≤140737488355328) (W.req (((([]:List BA)++((rd Je x2 at4).Owners)).length+([id1]:List BA).length)*16≤140737488355328∧(([]:List BA)++((rd Je x2 at4).Owners)).length+([id1]:List BA).length≤140737488355328) (W.req (0≤at4∧at4<(x2.length:Int)) (W.req (0≤at4∧at4<(x2.length:Int)) (W.ret (x2.set at4.toNat ({ (rd Je x2 at4) with Owners:=((([]:List BA)++((rd Je x2 at4).Owners))++([id1]:List BA)) }:Jr))))))))) (W.ret x2))))))
def Vj.c3 (l1:(List Jr)) (at4:Int) (K2:(List Jr)→W (List Jr)) (x3:Jr):W (List Jr):=W.req (0≤at4∧at4≤(l1.length:Int)) (W.req (at4.toNat≤l1.length) (W.req ((([]:List Jr).length+((l1.take at4.toNat).drop 0).length)*88≤140737488355328∧([]:List Jr).length+((l1.take at4.toNat).drop 0).length≤140737488355328) (W.req (((([]:List Jr)++((l1.take at4.toNat).drop 0)).length+([x3]:List Jr).length)*88≤140737488355328∧(([]:List Jr)++((l1.take at4.toNat).drop 0)).length+([x3]:List Jr).length≤140737488355328) (W.req (l1.length≤l1.length) (W.req ((((([]:List Jr)++((l1.take at4.toNat).drop 0))++([x3]:List Jr)).length+((l1.take l1.length).drop at4.toNat).length)*88≤140737488355328∧((([]:List Jr)++((l1.take at4.toNat).drop 0))++([x3]:List Jr)).length+((l1.take l1.length).drop at4.toNat).length≤140737488355328) (K2 (((([]:List Jr)++((l1.take at4.toNat).drop 0))++([x3]:List Jr))++((l1.take l1.length).drop at4.toNat))))))))
def Vj.c1 (l1:(List Jr)) (m1:Map) (s1:(BA×BA)) (id1:BA) (at4:Int):W (List Jr):=W.req ((!(at4==(l1.length:Int)))=true→0≤at4∧at4<(l1.length:Int)) (W.req ((!((at4==(l1.length:Int))||(!(sEq ((rd Je l1 at4).A) s1.1))))=true→0≤at4∧at4<(l1.length:Int)) (W.ite (((at4==(l1.length:Int))||(!(sEq ((rd Je l1 at4).A) s1.1)))||(!(sEq ((rd Je l1 at4).B) s1.2))) (W.bind (qo.F m1 s1.1) (fun r5=>W.req (0≤r5∧r5<(m1.Objects.length:Int)) (W.bind (qo.F m1 s1.2) (fun r6=>W.req (0≤r6∧r6<(m1.Objects.length:Int)) ((Vj.c3 l1 at4 (Vj.c2 id1 at4)) (⟨s1.1,s1.2,(rd zObject m1.Objects r5).At,(rd zObject m1.Objects r6).At,([]:List BA)⟩:Jr)))))) ((Vj.c2 id1 at4) l1)))
def Vj.l1 (l1:(List Jr)) (s1:(BA×BA)) (K1:Int→W (List Jr)) (A1:Int→W (List Jr)) (at7:Int):W (List Jr):=W.req ((decide (at7<(l1.length:Int)))=true→0≤at7∧at7<(l1.length:Int)) (W.req (((decide (at7<(l1.length:Int)))&&!(sLt ((rd Je l1 at7).A) s1.1))=true→0≤at7∧at7<(l1.length:Int)) (W.req ((((decide (at7<(l1.length:Int)))&&!(sLt ((rd Je l1 at7).A) s1.1))&&(sEq ((rd Je l1 at7).A) s1.1))=true→0≤at7∧at7<(l1.length:Int)) (W.ite ((decide (at7<(l1.length:Int)))&&((sLt ((rd Je l1 at7).A) s1.1)||((sEq ((rd Je l1 at7).A) s1.1)&&(sLt ((rd Je l1 at7).B) s1.2)))) (A1 (w64 (at7+(1:Int)))) (K1 at7))))
def Vj.F (l1:(List Jr)) (m1:Map) (s1:(BA×BA)) (id1:BA):W (List Jr):=W.ex fun n=>W.iter1 (Vj.l1 l1 s1 (Vj.c1 l1 m1 s1 id1)) n (0:Int)
theorem Vj.ok {l1:(List Jr)} {v1:Value} {m1:Map} {s1:(BA×BA)} {id1:BA} {Q:(List Jr)→Prop} (hF:Vj.F l1 m1 s1 id1 Q):Con Tryz.prog 53 [.eq v1,.tv kMap m1,.tv (kPair kStr kStr) s1,.tv kStr id1] [.row v1 49 Vk l1] (fun ta rs'=>∃ (r:(List Jr)) (u0:Value),Q r∧ta=.eq u0∧rs'=[.row u0 49 Vk r]):=by
 refine Con.i Tryz.func53 Tryz.ntmps53 R R (fun C=>?_)
 unfold Vj.F at hF
 refine At.seq (At.region (At.f R (jy R R R (ja R)) ?_))
 rintro _ _ ⟨g1,rfl,rfl⟩
 refine At.f R (jy R R R (ja R)) ?_
 rintro _ _ ⟨g2,rfl,rfl⟩
 refine At.d R R R R (jd (x:=(.eq (.slice none 0 0))) (opd_eq _)) ?_
 refine At.done (At.vl (At.seq (At.region (At.d R R R R (jd (x:=(.tv (kInt .i64) (0:Int))) (ji _ _)) ?_))))
 refine At.done (At.vl ?_)
 refine At.cut (fun rs L=>∃ (at4:Int),Vj.c1 l1 m1 s1 id1 at4 Q∧rs=[.row v1 49 Vk l1,.box g1 24 kMap m1,.box g2 50 (kPair kStr kStr) s1]∧L=mkL [(0,(.eq v1)),(3,(.tv kStr id1)),(5,(.eq (.pointer (some ⟨g1,0,none⟩)))),(6,(.eq (.pointer (some ⟨g2,0,none⟩)))),(9,(.tv (kInt .i64) at4))]) ?_ ?_
 ·refine At.block ?_
  obtain ⟨n1,hF⟩:=hF
  refine At.w [2,1,0] R [(0,(.eq v1)),(3,(.tv kStr id1)),(5,(.eq (.pointer (some ⟨g1,0,none⟩)))),(6,(.eq (.pointer (some ⟨g2,0,none⟩)))),(9,(.tv (kInt .i64) (0:Int)))] ⟨R,R,R,R,R,trivial⟩ ?_
  refine At.loop (fun m rs L=>∃ (at7:Int),W.iter1 (Vj.l1 l1 s1 (Vj.c1 l1 m1 s1 id1)) m at7 Q∧rs=[.row v1 49 Vk l1,.box g1 24 kMap m1,.box g2 50 (kPair kStr kStr) s1]∧L=mkL [(0,(.eq v1)),(3,(.tv kStr id1)),(5,(.eq (.pointer (some ⟨g1,0,none⟩)))),(6,(.eq (.pointer (some ⟨g2,0,none⟩)))),(9,(.tv (kInt .i64) at7))]) ?_ ?_ (m:=n1) ⟨(0:Int),hF,R,R⟩
  ·rintro rs L ⟨_,hF,_,_⟩;exact hF
  ·rintro m2 _ _ ⟨at7,hF,rfl,rfl⟩
   replace hF:=W.iter1_s hF
   unfold Vj.l1 at hF
   refine At.seq (At.seq ?_)
   refine At.draw mixed [0,1,2] R [[],[],[]] (fun φ w hgd=>?_)
   obtain ⟨hq46,hF⟩:=hF
   obtain ⟨hq47,hF⟩:=hF
   obtain ⟨hq48,hF⟩:=hF
   refine AtH.take [0,1,2] hgd 0 R R R R (D':=#[Y,N,N,N,N,N,N,N,N,N,N,N,N,N,N,N,N,N,N,N,N,N,N,N,N,N,N,N,N,N,N,N,N,N]) (by kernel_rfl) (fun _ _ _ _ h=>h) R (jb (x:=(.tv (kInt .i64) at7)) (ja R)) ?_
   refine AtH.take [0,1,2] hgd 1 R R R R (D':=#[Y,Y,N,N,N,N,N,N,N,N,N,N,N,N,N,N,N,N,N,N,N,N,N,N,N,N,N,N,N,N,N,N,N,N]) (by kernel_rfl) (fun _ _ _ _ h=>h) R (jb (x:=(.eq v1)) (ja R)) ?_
   refine AtH.take [0,1,2] hgd 2 R R R R (D':=#[Y,Y,Y,N,N,N,N,N,N,N,N,N,N,N,N,N,N,N,N,N,N,N,N,N,N,N,N,N,N,N,N,N,N,N]) (by kernel_rfl) (fun _ _ _ _ h=>h) R (does_len_row (ja R) 0 R Tryz.underlying45) ?_
   refine AtH.take [0,1,2] hgd 3 R R R R (D':=#[Y,Y,Y,Y,N,N,N,N,N,N,N,N,N,N,N,N,N,N,N,N,N,N,N,N,N,N,N,N,N,N,N,N,N,N]) (by kernel_rfl) (fun _ _ _ _ h=>h) R (jk (ja R) (ja R) vg) ?_
   refine AtH.take [0,1,2] hgd 4 R R R R (D':=#[Y,Y,Y,Y,Y,N,N,N,N,N,N,N,N,N,N,N,N,N,N,N,N,N,N,N,N,N,N,N,N,N,N,N,N,N]) (by kernel_rfl) (fun _ _ _ _ h=>h) R (jb (x:=(.tv kBool (decide (at7<(l1.length:Int))))) (ja R)) ?_
   refine AtH.vo [0,1,2] hgd 5 R R R (jw R) R R (D':=#[Y,Y,Y,Y,Y,Y,N,N,N,N,N,N,N,N,N,N,N,N,N,N,N,N,N,N,N,N,N,N,N,N,N,N,N,N]) (by kernel_rfl) (fun _ _ _ _ h=>h) R (fun hg328=>(jb (x:=(.eq v1)) (ja R))) ?_
   refine AtH.vo [0,1,2] hgd 6 R R R (jw R) R R (D':=#[Y,Y,Y,Y,Y,Y,Y,N,N,N,N,N,N,N,N,N,N,N,N,N,N,N,N,N,N,N,N,N,N,N,N,N,N,N]) (by kernel_rfl) (fun _ _ _ _ h=>h) R (fun hg329=>(jb (x:=(.tv (kInt .i64) at7)) (ja R))) ?_
   refine AtH.vo [0,1,2] hgd 7 R R R (jw R) R R (D':=#[Y,Y,Y,Y,Y,Y,Y,Y,N,N,N,N,N,N,N,N,N,N,N,N,N,N,N,N,N,N,N,N,N,N,N,N,N,N]) (by kernel_rfl) (fun _ _ _ _ h=>h) R (fun hg330=>(does_idx_row (jh R hg330) 0 R (jh R hg330) Tryz.underlying45 ty_49 (hq46 hg330))) ?_
   refine AtH.vo [0,1,2] hgd 8 R R R (jw R) R R (D':=#[Y,Y,Y,Y,Y,Y,Y,Y,Y,N,N,N,N,N,N,N,N,N,N,N,N,N,N,N,N,N,N,N,N,N,N,N,N,N]) (by kernel_rfl) (fun _ _ _ _ h=>h) R (fun hg331=>(does_field_elem (jh R hg331) fa_49_0)) ?_
   refine AtH.vo [0,1,2] hgd 9 R R R (jw R) R R (D':=#[Y,Y,Y,Y,Y,Y,Y,Y,Y,Y,N,N,N,N,N,N,N,N,N,N,N,N,N,N,N,N,N,N,N,N,N,N,N,N]) (by kernel_rfl) (fun _ _ _ _ h=>h) R (fun hg332=>(Jh (jh R hg332) 0 R at7 0 R Je (hq46 hg332) wr ty_9)) ?_
   refine AtH.vo [0,1,2] hgd 10 R R R (jw R) R R (D':=#[Y,Y,Y,Y,Y,Y,Y,Y,Y,Y,Y,N,N,N,N,N,N,N,N,N,N,N,N,N,N,N,N,N,N,N,N,N,N,N]) (by kernel_rfl) (fun _ _ _ _ h=>h) R (fun hg333=>(does_aidx_box (ja R) (ji _ _) jb2)) ?_
   refine AtH.vo [0,1,2] hgd 11 R R R (jw R) R R (D':=#[Y,Y,Y,Y,Y,Y,Y,Y,Y,Y,Y,Y,N,N,N,N,N,N,N,N,N,N,N,N,N,N,N,N,N,N,N,N,N,N]) (by kernel_rfl) (fun _ _ _ _ h=>h) R (fun hg334=>(jc (jh R hg334) 2 R yp ty_9)) ?_
   refine AtH.vo [0,1,2] hgd 12 R R R (jw R) R R (D':=#[Y,Y,Y,Y,Y,Y,Y,Y,Y,Y,Y,Y,Y,N,N,N,N,N,N,N,N,N,N,N,N,N,N,N,N,N,N,N,N,N]) (by kernel_rfl) (fun _ _ _ _ h=>h) R (fun hg335=>(jk (jh R hg335) (jh R hg335) bin_slss)) ?_
   refine AtH.vo [0,1,2] hgd 13 R R R (jw R) R R (D':=#[Y,Y,Y,Y,Y,Y,Y,Y,Y,Y,Y,Y,Y,Y,N,N,N,N,N,N,N,N,N,N,N,N,N,N,N,N,N,N,N,N]) (by kernel_rfl) (fun _ _ _ _ h=>h) R (fun hg336=>(jb (x:=(.tv kBool (sLt ((rd Je l1 at7).A) s1.1))) (jh R hg336))) ?_
   refine AtH.vo [0,1,2] hgd 14 R R R (jv R) R R (D':=#[Y,Y,Y,Y,Y,Y,Y,Y,Y,Y,Y,Y,Y,Y,Y,N,N,N,N,N,N,N,N,N,N,N,N,N,N,N,N,N,N,N]) (by kernel_rfl) (fun _ _ _ _ h=>h) R (fun hg337=>(jb (x:=(.eq v1)) (ja R))) ?_
   refine AtH.vo [0,1,2] hgd 15 R R R (jv R) R R (D':=#[Y,Y,Y,Y,Y,Y,Y,Y,Y,Y,Y,Y,Y,Y,Y,Y,N,N,N,N,N,N,N,N,N,N,N,N,N,N,N,N,N,N]) (by kernel_rfl) (fun _ _ _ _ h=>h) R (fun hg338=>(jb (x:=(.tv (kInt .i64) at7)) (ja R))) ?_
   refine AtH.vo [0,1,2] hgd 16 R R R (jv R) R R (D':=#[Y,Y,Y,Y,Y,Y,Y,Y,Y,Y,Y,Y,Y,Y,Y,Y,Y,N,N,N,N,N,N,N,N,N,N,N,N,N,N,N,N,N]) (by kernel_rfl) (fun _ _ _ _ h=>h) R (fun hg339=>(does_idx_row (jh R hg339) 0 R (jh R hg339) Tryz.underlying45 ty_49 (hq47 hg339))) ?_
   refine AtH.vo [0,1,2] hgd 17 R R R (jv R) R R (D':=#[Y,Y,Y,Y,Y,Y,Y,Y,Y,Y,Y,Y,Y,Y,Y,Y,Y,Y,N,N,N,N,N,N,N,N,N,N,N,N,N,N,N,N]) (by kernel_rfl) (fun _ _ _ _ h=>h) R (fun hg340=>(does_field_elem (jh R hg340) fa_49_0)) ?_
   refine AtH.vo [0,1,2] hgd 18 R R R (jv R) R R (D':=#[Y,Y,Y,Y,Y,Y,Y,Y,Y,Y,Y,Y,Y,Y,Y,Y,Y,Y,Y,N,N,N,N,N,N,N,N,N,N,N,N,N,N,N]) (by kernel_rfl) (fun _ _ _ _ h=>h) R (fun hg341=>(Jh (jh R hg341) 0 R at7 0 R Je (hq47 hg341) wr ty_9)) ?_
   refine AtH.vo [0,1,2] hgd 19 R R R (jv R) R R (D':=#[Y,Y,Y,Y,Y,Y,Y,Y,Y,Y,Y,Y,Y,Y,Y,Y,Y,Y,Y,Y,N,N,N,N,N,N,N,N,N,N,N,N,N,N]) (by kernel_rfl) (fun _ _ _ _ h=>h) R (fun hg342=>(does_aidx_box (ja R) (ji _ _) jb2)) ?_
   refine AtH.vo [0,1,2] hgd 20 R R R (jv R) R R (D':=#[Y,Y,Y,Y,Y,Y,Y,Y,Y,Y,Y,Y,Y,Y,Y,Y,Y,Y,Y,Y,Y,N,N,N,N,N,N,N,N,N,N,N,N,N]) (by kernel_rfl) (fun _ _ _ _ h=>h) R (fun hg343=>(jc (jh R hg343) 2 R yp ty_9)) ?_
   refine AtH.vo [0,1,2] hgd 21 R R R (jv R) R R (D':=#[Y,Y,Y,Y,Y,Y,Y,Y,Y,Y,Y,Y,Y,Y,Y,Y,Y,Y,Y,Y,Y,Y,N,N,N,N,N,N,N,N,N,N,N,N]) (by kernel_rfl) (fun _ _ _ _ h=>h) R (fun hg344=>(jk (jh R hg344) (jh R hg344) bin_seql)) ?_
   refine AtH.vo [0,1,2] hgd 22 R R R (jv R) R R (D':=#[Y,Y,Y,Y,Y,Y,Y,Y,Y,Y,Y,Y,Y,Y,Y,Y,Y,Y,Y,Y,Y,Y,Y,N,N,N,N,N,N,N,N,N,N,N]) (by kernel_rfl) (fun _ _ _ _ h=>h) R (fun hg345=>(jb (x:=(.tv kBool (sEq ((rd Je l1 at7).A) s1.1))) (jh R hg345))) ?_
   refine AtH.vo [0,1,2] hgd 23 R R R (ju R) R R (D':=#[Y,Y,Y,Y,Y,Y,Y,Y,Y,Y,Y,Y,Y,Y,Y,Y,Y,Y,Y,Y,Y,Y,Y,Y,N,N,N,N,N,N,N,N,N,N]) (by kernel_rfl) (fun _ _ _ _ h=>h) R (fun hg346=>(jb (x:=(.eq v1)) (ja R))) ?_
   refine AtH.vo [0,1,2] hgd 24 R R R (ju R) R R (D':=#[Y,Y,Y,Y,Y,Y,Y,Y,Y,Y,Y,Y,Y,Y,Y,Y,Y,Y,Y,Y,Y,Y,Y,Y,Y,N,N,N,N,N,N,N,N,N]) (by kernel_rfl) (fun _ _ _ _ h=>h) R (fun hg347=>(jb (x:=(.tv (kInt .i64) at7)) (ja R))) ?_
   refine AtH.vo [0,1,2] hgd 25 R R R (ju R) R R (D':=#[Y,Y,Y,Y,Y,Y,Y,Y,Y,Y,Y,Y,Y,Y,Y,Y,Y,Y,Y,Y,Y,Y,Y,Y,Y,Y,N,N,N,N,N,N,N,N]) (by kernel_rfl) (fun _ _ _ _ h=>h) R (fun hg348=>(does_idx_row (jh R hg348) 0 R (jh R hg348) Tryz.underlying45 ty_49 (hq48 hg348))) ?_
   refine AtH.vo [0,1,2] hgd 26 R R R (ju R) R R (D':=#[Y,Y,Y,Y,Y,Y,Y,Y,Y,Y,Y,Y,Y,Y,Y,Y,Y,Y,Y,Y,Y,Y,Y,Y,Y,Y,Y,N,N,N,N,N,N,N]) (by kernel_rfl) (fun _ _ _ _ h=>h) R (fun hg349=>(does_field_elem (jh R hg349) fa_49_1)) ?_
   refine AtH.vo [0,1,2] hgd 27 R R R (ju R) R R (D':=#[Y,Y,Y,Y,Y,Y,Y,Y,Y,Y,Y,Y,Y,Y,Y,Y,Y,Y,Y,Y,Y,Y,Y,Y,Y,Y,Y,Y,N,N,N,N,N,N]) (by kernel_rfl) (fun _ _ _ _ h=>h) R (fun hg350=>(Jh (jh R hg350) 0 R at7 1 R Je (hq48 hg350) yg ty_9)) ?_
   refine AtH.vo [0,1,2] hgd 28 R R R (ju R) R R (D':=#[Y,Y,Y,Y,Y,Y,Y,Y,Y,Y,Y,Y,Y,Y,Y,Y,Y,Y,Y,Y,Y,Y,Y,Y,Y,Y,Y,Y,Y,N,N,N,N,N]) (by kernel_rfl) (fun _ _ _ _ h=>h) R (fun hg351=>(does_aidx_box (ja R) (ji _ _) ia_50_1)) ?_
   refine AtH.vo [0,1,2] hgd 29 R R R (ju R) R R (D':=#[Y,Y,Y,Y,Y,Y,Y,Y,Y,Y,Y,Y,Y,Y,Y,Y,Y,Y,Y,Y,Y,Y,Y,Y,Y,Y,Y,Y,Y,Y,N,N,N,N]) (by kernel_rfl) (fun _ _ _ _ h=>h) R (fun hg352=>(jc (jh R hg352) 2 R yw ty_9)) ?_
   refine AtH.vo [0,1,2] hgd 30 R R R (ju R) R R (D':=#[Y,Y,Y,Y,Y,Y,Y,Y,Y,Y,Y,Y,Y,Y,Y,Y,Y,Y,Y,Y,Y,Y,Y,Y,Y,Y,Y,Y,Y,Y,Y,N,N,N]) (by kernel_rfl) (fun _ _ _ _ h=>h) R (fun hg353=>(jk (jh R hg353) (jh R hg353) bin_slss)) ?_
   refine AtH.vo [0,1,2] hgd 31 R R R (jv R) R R (D':=#[Y,Y,Y,Y,Y,Y,Y,Y,Y,Y,Y,Y,Y,Y,Y,Y,Y,Y,Y,Y,Y,Y,Y,Y,Y,Y,Y,Y,Y,Y,Y,Y,N,N]) (by kernel_rfl) (fun _ _ _ _ h=>h) R (fun hg354=>(jm (jh R hg354) (ja R) (jl _) (pick_andG (and_of hg354)))) ?_
   refine AtH.vo [0,1,2] hgd 32 R R R (jw R) R R (D':=#[Y,Y,Y,Y,Y,Y,Y,Y,Y,Y,Y,Y,Y,Y,Y,Y,Y,Y,Y,Y,Y,Y,Y,Y,Y,Y,Y,Y,Y,Y,Y,Y,Y,N]) (by kernel_rfl) (fun _ _ _ _ h=>h) R (fun hg355=>(jm (jh R hg355) (jl _) (ja R) (pick_orG (andn_of hg355)))) ?_
   refine AtH.take [0,1,2] hgd 33 R R R R (D':=#[Y,Y,Y,Y,Y,Y,Y,Y,Y,Y,Y,Y,Y,Y,Y,Y,Y,Y,Y,Y,Y,Y,Y,Y,Y,Y,Y,Y,Y,Y,Y,Y,Y,Y]) (by kernel_rfl) (fun _ _ _ _ h=>h) R (jm (ja R) (ja R) (jl _) vh) ?_
   refine AtH.done (by kernel_rfl) ?_
   refine At.vl ?_
   refine At.cond (ja R) (fun hb8=>?_) (fun hb8=>?_)
   ·replace hF:=W.ite_t hb8 hF
    refine At.skip (At.vl (At.block (At.region (At.d R R R R (jb (x:=(.tv (kInt .i64) at7)) (ja R)) ?_))))
    refine At.d R R R R (jk (ja R) (ji _ _) vf) ?_
    refine At.d R R R R (jd (x:=(.tv (kInt .i64) (w64 (at7+(1:Int))))) (ja R)) ?_
    refine At.done ?_
    refine At.n ?_
    refine At.vl ?_
    refine At.w [0,1,2] R [(0,(.eq v1)),(3,(.tv kStr id1)),(5,(.eq (.pointer (some ⟨g1,0,none⟩)))),(6,(.eq (.pointer (some ⟨g2,0,none⟩)))),(9,(.tv (kInt .i64) (w64 (at7+(1:Int)))))] ⟨R,R,R,R,R,trivial⟩ (At.r ⟨(w64 (at7+(1:Int))),hF,R,R⟩)
   ·replace hF:=W.ite_f hb8 hF
    refine At.exit ?_
    refine At.x (At.x ?_)
    refine At.h ?_
    refine At.vl ?_
    refine At.w [0,1,2] R [(0,(.eq v1)),(3,(.tv kStr id1)),(5,(.eq (.pointer (some ⟨g1,0,none⟩)))),(6,(.eq (.pointer (some ⟨g2,0,none⟩)))),(9,(.tv (kInt .i64) at7))] ⟨R,R,R,R,R,trivial⟩ (At.r ⟨at7,hF,R,R⟩)
 ·rintro _ _ ⟨at4,hF,rfl,rfl⟩
  unfold Vj.c1 at hF
  refine At.cut (fun rs L=>∃ (x2:(List Jr)) (v21:Value),Vj.c2 id1 at4 x2 Q∧rs=[.row v21 49 Vk x2]∧L=mkL [(0,(.eq v21)),(3,(.tv kStr id1)),(9,(.tv (kInt .i64) at4))]) ?_ ?_
  ·refine At.seq ?_
   refine At.draw mixed [0,1,2] R [[],[],[]] (fun φ w hgd=>?_)
   obtain ⟨hq28,hF⟩:=hF
   obtain ⟨hq29,hF⟩:=hF
   refine AtH.take [0,1,2] hgd 0 R R R R (D':=#[Y,N,N,N,N,N,N,N,N,N,N,N,N,N,N,N,N,N,N,N,N,N,N,N]) (by kernel_rfl) (fun _ _ _ _ h=>h) R (jb (x:=(.tv (kInt .i64) at4)) (ja R)) ?_
   refine AtH.take [0,1,2] hgd 1 R R R R (D':=#[Y,Y,N,N,N,N,N,N,N,N,N,N,N,N,N,N,N,N,N,N,N,N,N,N]) (by kernel_rfl) (fun _ _ _ _ h=>h) R (jb (x:=(.eq v1)) (ja R)) ?_
   refine AtH.take [0,1,2] hgd 2 R R R R (D':=#[Y,Y,Y,N,N,N,N,N,N,N,N,N,N,N,N,N,N,N,N,N,N,N,N,N]) (by kernel_rfl) (fun _ _ _ _ h=>h) R (does_len_row (ja R) 0 R Tryz.underlying45) ?_
   refine AtH.take [0,1,2] hgd 3 R R R R (D':=#[Y,Y,Y,Y,N,N,N,N,N,N,N,N,N,N,N,N,N,N,N,N,N,N,N,N]) (by kernel_rfl) (fun _ _ _ _ h=>h) R (jk (ja R) (ja R) bin_eql) ?_
   refine AtH.take [0,1,2] hgd 4 R R R R (D':=#[Y,Y,Y,Y,Y,N,N,N,N,N,N,N,N,N,N,N,N,N,N,N,N,N,N,N]) (by kernel_rfl) (fun _ _ _ _ h=>h) R (jb (x:=(.tv kBool (at4==(l1.length:Int)))) (ja R)) ?_
   refine AtH.vo [0,1,2] hgd 5 R R R (jx R) R R (D':=#[Y,Y,Y,Y,Y,Y,N,N,N,N,N,N,N,N,N,N,N,N,N,N,N,N,N,N]) (by kernel_rfl) (fun _ _ _ _ h=>h) R (fun hg172=>(jb (x:=(.eq v1)) (ja R))) ?_
   refine AtH.vo [0,1,2] hgd 6 R R R (jx R) R R (D':=#[Y,Y,Y,Y,Y,Y,Y,N,N,N,N,N,N,N,N,N,N,N,N,N,N,N,N,N]) (by kernel_rfl) (fun _ _ _ _ h=>h) R (fun hg173=>(jb (x:=(.tv (kInt .i64) at4)) (ja R))) ?_
   refine AtH.vo [0,1,2] hgd 7 R R R (jx R) R R (D':=#[Y,Y,Y,Y,Y,Y,Y,Y,N,N,N,N,N,N,N,N,N,N,N,N,N,N,N,N]) (by kernel_rfl) (fun _ _ _ _ h=>h) R (fun hg174=>(does_idx_row (jh R hg174) 0 R (jh R hg174) Tryz.underlying45 ty_49 (hq28 hg174))) ?_
   refine AtH.vo [0,1,2] hgd 8 R R R (jx R) R R (D':=#[Y,Y,Y,Y,Y,Y,Y,Y,Y,N,N,N,N,N,N,N,N,N,N,N,N,N,N,N]) (by kernel_rfl) (fun _ _ _ _ h=>h) R (fun hg175=>(does_field_elem (jh R hg175) fa_49_0)) ?_
   refine AtH.vo [0,1,2] hgd 9 R R R (jx R) R R (D':=#[Y,Y,Y,Y,Y,Y,Y,Y,Y,Y,N,N,N,N,N,N,N,N,N,N,N,N,N,N]) (by kernel_rfl) (fun _ _ _ _ h=>h) R (fun hg176=>(Jh (jh R hg176) 0 R at4 0 R Je (hq28 hg176) wr ty_9)) ?_
   refine AtH.vo [0,1,2] hgd 10 R R R (jx R) R R (D':=#[Y,Y,Y,Y,Y,Y,Y,Y,Y,Y,Y,N,N,N,N,N,N,N,N,N,N,N,N,N]) (by kernel_rfl) (fun _ _ _ _ h=>h) R (fun hg177=>(does_aidx_box (ja R) (ji _ _) jb2)) ?_
   refine AtH.vo [0,1,2] hgd 11 R R R (jx R) R R (D':=#[Y,Y,Y,Y,Y,Y,Y,Y,Y,Y,Y,Y,N,N,N,N,N,N,N,N,N,N,N,N]) (by kernel_rfl) (fun _ _ _ _ h=>h) R (fun hg178=>(jc (jh R hg178) 2 R yp ty_9)) ?_
   refine AtH.vo [0,1,2] hgd 12 R R R (jx R) R R (D':=#[Y,Y,Y,Y,Y,Y,Y,Y,Y,Y,Y,Y,Y,N,N,N,N,N,N,N,N,N,N,N]) (by kernel_rfl) (fun _ _ _ _ h=>h) R (fun hg179=>(jk (jh R hg179) (jh R hg179) bin_sneq)) ?_
   refine AtH.take [0,1,2] hgd 13 R R R R (D':=#[Y,Y,Y,Y,Y,Y,Y,Y,Y,Y,Y,Y,Y,Y,N,N,N,N,N,N,N,N,N,N]) (by kernel_rfl) (fun _ _ _ _ h=>h) R (jm (ja R) (jl _) (ja R) vi) ?_
   refine AtH.take [0,1,2] hgd 14 R R R R (D':=#[Y,Y,Y,Y,Y,Y,Y,Y,Y,Y,Y,Y,Y,Y,Y,N,N,N,N,N,N,N,N,N]) (by kernel_rfl) (fun _ _ _ _ h=>h) R (jb (x:=(.tv kBool ((at4==(l1.length:Int))||(!(sEq ((rd Je l1 at4).A) s1.1))))) (ja R)) ?_
   refine AtH.vo [0,1,2] hgd 15 R R R (jx R) R R (D':=#[Y,Y,Y,Y,Y,Y,Y,Y,Y,Y,Y,Y,Y,Y,Y,Y,N,N,N,N,N,N,N,N]) (by kernel_rfl) (fun _ _ _ _ h=>h) R (fun hg180=>(jb (x:=(.eq v1)) (ja R))) ?_
   refine AtH.vo [0,1,2] hgd 16 R R R (jx R) R R (D':=#[Y,Y,Y,Y,Y,Y,Y,Y,Y,Y,Y,Y,Y,Y,Y,Y,Y,N,N,N,N,N,N,N]) (by kernel_rfl) (fun _ _ _ _ h=>h) R (fun hg181=>(jb (x:=(.tv (kInt .i64) at4)) (ja R))) ?_
   refine AtH.vo [0,1,2] hgd 17 R R R (jx R) R R (D':=#[Y,Y,Y,Y,Y,Y,Y,Y,Y,Y,Y,Y,Y,Y,Y,Y,Y,Y,N,N,N,N,N,N]) (by kernel_rfl) (fun _ _ _ _ h=>h) R (fun hg182=>(does_idx_row (jh R hg182) 0 R (jh R hg182) Tryz.underlying45 ty_49 (hq29 hg182))) ?_
   refine AtH.vo [0,1,2] hgd 18 R R R (jx R) R R (D':=#[Y,Y,Y,Y,Y,Y,Y,Y,Y,Y,Y,Y,Y,Y,Y,Y,Y,Y,Y,N,N,N,N,N]) (by kernel_rfl) (fun _ _ _ _ h=>h) R (fun hg183=>(does_field_elem (jh R hg183) fa_49_1)) ?_
   refine AtH.vo [0,1,2] hgd 19 R R R (jx R) R R (D':=#[Y,Y,Y,Y,Y,Y,Y,Y,Y,Y,Y,Y,Y,Y,Y,Y,Y,Y,Y,Y,N,N,N,N]) (by kernel_rfl) (fun _ _ _ _ h=>h) R (fun hg184=>(Jh (jh R hg184) 0 R at4 1 R Je (hq29 hg184) yg ty_9)) ?_
   refine AtH.vo [0,1,2] hgd 20 R R R (jx R) R R (D':=#[Y,Y,Y,Y,Y,Y,Y,Y,Y,Y,Y,Y,Y,Y,Y,Y,Y,Y,Y,Y,Y,N,N,N]) (by kernel_rfl) (fun _ _ _ _ h=>h) R (fun hg185=>(does_aidx_box (ja R) (ji _ _) ia_50_1)) ?_
   refine AtH.vo [0,1,2] hgd 21 R R R (jx R) R R (D':=#[Y,Y,Y,Y,Y,Y,Y,Y,Y,Y,Y,Y,Y,Y,Y,Y,Y,Y,Y,Y,Y,Y,N,N]) (by kernel_rfl) (fun _ _ _ _ h=>h) R (fun hg186=>(jc (jh R hg186) 2 R yw ty_9)) ?_
   refine AtH.vo [0,1,2] hgd 22 R R R (jx R) R R (D':=#[Y,Y,Y,Y,Y,Y,Y,Y,Y,Y,Y,Y,Y,Y,Y,Y,Y,Y,Y,Y,Y,Y,Y,N]) (by kernel_rfl) (fun _ _ _ _ h=>h) R (fun hg187=>(jk (jh R hg187) (jh R hg187) bin_sneq)) ?_
   refine AtH.take [0,1,2] hgd 23 R R R R (D':=#[Y,Y,Y,Y,Y,Y,Y,Y,Y,Y,Y,Y,Y,Y,Y,Y,Y,Y,Y,Y,Y,Y,Y,Y]) (by kernel_rfl) (fun _ _ _ _ h=>h) R (jm (ja R) (jl _) (ja R) vi) ?_
   refine AtH.done (by kernel_rfl) ?_
   refine At.vl ?_
   refine At.cond (ja R) (fun hb5=>?_) (fun hb5=>?_)
   ·replace hF:=W.ite_t hb5 hF
    refine At.cut (fun rs L=>∃ (x3:Jr) (g12:Nat),Vj.c3 l1 at4 (Vj.c2 id1 at4) x3 Q∧rs=[.row v1 49 Vk l1,.box g12 49 Vk x3]∧L=mkL [(0,(.eq v1)),(3,(.tv kStr id1)),(9,(.tv (kInt .i64) at4)),(10,(.eq (.pointer (some ⟨g12,0,none⟩))))]) ?_ ?_
    ·refine At.draw mixed [0,1,2] R [[],[],[]] (fun φ w hgd=>?_)
     replace hF:=W.vq hF
     refine AtH.take [0,1,2] hgd 0 R R R R (D':=#[Y,N,N,N,N,N,N,N,N,N,N,N,N,N,N,N,N,N,N,N,N,N,N,N,N]) (by kernel_rfl) (fun _ _ _ _ h=>h) R (does_aidx_box (ja R) (ji _ _) jb2) ?_
     refine AtH.take [0,1,2] hgd 1 R R R R (D':=#[Y,Y,N,N,N,N,N,N,N,N,N,N,N,N,N,N,N,N,N,N,N,N,N,N,N]) (by kernel_rfl) (fun _ _ _ _ h=>h) R (jc (ja R) 2 R yp ty_9) ?_
     refine AtH.take [0,1,2] hgd 2 R R R R (D':=#[Y,Y,Y,N,N,N,N,N,N,N,N,N,N,N,N,N,N,N,N,N,N,N,N,N,N]) (by kernel_rfl) (fun _ _ _ _ h=>h) R (does_aidx_box (ja R) (ji _ _) ia_50_1) ?_
     refine AtH.take [0,1,2] hgd 3 R R R R (D':=#[Y,Y,Y,Y,N,N,N,N,N,N,N,N,N,N,N,N,N,N,N,N,N,N,N,N,N]) (by kernel_rfl) (fun _ _ _ _ h=>h) R (jc (ja R) 2 R yw ty_9) ?_
     refine AtH.take [0,1,2] hgd 4 R R R R (D':=#[Y,Y,Y,Y,Y,N,N,N,N,N,N,N,N,N,N,N,N,N,N,N,N,N,N,N,N]) (by kernel_rfl) (fun _ _ _ _ h=>h) R (je (ja R) qq) ?_
     refine AtH.take [0,1,2] hgd 5 R R R R (D':=#[Y,Y,Y,Y,Y,Y,N,N,N,N,N,N,N,N,N,N,N,N,N,N,N,N,N,N,N]) (by kernel_rfl) (fun _ _ _ _ h=>h) R (jc (ja R) 1 R qc ty_22) ?_
     refine AtH.take [0,1,2] hgd 6 R R R R (D':=#[Y,Y,Y,Y,Y,Y,Y,N,N,N,N,N,N,N,N,N,N,N,N,N,N,N,N,N,N]) (by kernel_rfl) (fun _ _ _ _ h=>h) R (jc (ja R) 1 R (Sub.self kMap) ty_24) ?_
     refine AtH.take [0,1,2] hgd 7 R R R R (D':=#[Y,Y,Y,Y,Y,Y,Y,Y,N,N,N,N,N,N,N,N,N,N,N,N,N,N,N,N,N]) (by kernel_rfl) (fun _ _ _ _ h=>h) R (does_aidx_box (ja R) (ji _ _) jb2) ?_
     refine AtH.take [0,1,2] hgd 8 R R R R (D':=#[Y,Y,Y,Y,Y,Y,Y,Y,Y,N,N,N,N,N,N,N,N,N,N,N,N,N,N,N,N]) (by kernel_rfl) (fun _ _ _ _ h=>h) R (jc (ja R) 2 R yp ty_9) ?_
     refine AtH.take [0,1,2] hgd 13 R R R R (D':=#[Y,Y,Y,Y,Y,Y,Y,Y,Y,N,N,N,N,Y,N,N,N,N,N,N,N,N,N,N,N]) (by kernel_rfl) (fun _ _ _ _ h=>h) R (je (ja R) qq) ?_
     refine AtH.take [0,1,2] hgd 14 R R R R (D':=#[Y,Y,Y,Y,Y,Y,Y,Y,Y,N,N,N,N,Y,Y,N,N,N,N,N,N,N,N,N,N]) (by kernel_rfl) (fun _ _ _ _ h=>h) R (jc (ja R) 1 R qc ty_22) ?_
     refine AtH.take [0,1,2] hgd 15 R R R R (D':=#[Y,Y,Y,Y,Y,Y,Y,Y,Y,N,N,N,N,Y,Y,Y,N,N,N,N,N,N,N,N,N]) (by kernel_rfl) (fun _ _ _ _ h=>h) R (jc (ja R) 1 R (Sub.self kMap) ty_24) ?_
     refine AtH.take [0,1,2] hgd 16 R R R R (D':=#[Y,Y,Y,Y,Y,Y,Y,Y,Y,N,N,N,N,Y,Y,Y,Y,N,N,N,N,N,N,N,N]) (by kernel_rfl) (fun _ _ _ _ h=>h) R (does_aidx_box (ja R) (ji _ _) ia_50_1) ?_
     refine AtH.take [0,1,2] hgd 17 R R R R (D':=#[Y,Y,Y,Y,Y,Y,Y,Y,Y,N,N,N,N,Y,Y,Y,Y,Y,N,N,N,N,N,N,N]) (by kernel_rfl) (fun _ _ _ _ h=>h) R (jc (ja R) 2 R yw ty_9) ?_
     refine AtH.all2 9 23 (by kernel_rfl) ?_ ?_
     ·refine AtH.f [(0,0),(1,1),(2,2)] R R R R R R (jn R R jp (jq R en_87 (jf (ja R) (jf (ja R) jg))) (qo.ok hF) (by rintro _ _ ⟨r,_,rfl,_⟩;exact flat_int)) (D':=#[Y,Y,Y,Y,Y,Y,Y,Y,Y,Y,N,N,N,Y,Y,Y,Y,Y,N,N,N,N,N,N,N]) (by kernel_rfl) (by kernel_rfl) ?_
      rintro _ _ ⟨_,_,⟨r5,hF,rfl,rfl⟩,rfl,rfl⟩
      refine ⟨_,.inr ⟨R,flat_int⟩,?_⟩
      obtain ⟨hq38,hF⟩:=hF
      replace hF:=W.vq hF
      refine AtH.take [0,1,2] hgd 10 R R R R (D':=#[Y,Y,Y,Y,Y,Y,Y,Y,Y,Y,Y,N,N,Y,Y,Y,Y,Y,N,N,N,N,N,N,N]) (by kernel_rfl) (fun _ _ _ _ h=>h) R (vj zObject (ja R) (ja R) Tryz.underlying22 ty_59 hq38) ?_
      refine AtH.take [0,1,2] hgd 11 R R R R (D':=#[Y,Y,Y,Y,Y,Y,Y,Y,Y,Y,Y,Y,N,Y,Y,Y,Y,Y,N,N,N,N,N,N,N]) (by kernel_rfl) (fun _ _ _ _ h=>h) R (Ji (K:=kObject) (ja R) jb6 wm) ?_
      refine AtH.take [0,1,2] hgd 12 R R R R (D':=#[Y,Y,Y,Y,Y,Y,Y,Y,Y,Y,Y,Y,Y,Y,Y,Y,Y,Y,N,N,N,N,N,N,N]) (by kernel_rfl) (fun _ _ _ _ h=>h) R (vw (K:=kPoint) (ja R) ty_37) ?_
      refine AtH.all2 18 23 (by kernel_rfl) ?_ ?_
      ·refine AtH.f [(0,0),(1,1),(2,2)] R R R R R R (jn R R jp (jq R en_87 (jf (ja R) (jf (ja R) jg))) (qo.ok hF) (by rintro _ _ ⟨r,_,rfl,_⟩;exact flat_int)) (D':=#[Y,Y,Y,Y,Y,Y,Y,Y,Y,Y,Y,Y,Y,Y,Y,Y,Y,Y,Y,N,N,N,N,N,N]) (by kernel_rfl) (by kernel_rfl) ?_
       rintro _ _ ⟨_,_,⟨r6,hF,rfl,rfl⟩,rfl,rfl⟩
       refine ⟨_,.inr ⟨R,flat_int⟩,?_⟩
       obtain ⟨hq39,hF⟩:=hF
       refine AtH.take [0,1,2] hgd 19 R R R R (D':=#[Y,Y,Y,Y,Y,Y,Y,Y,Y,Y,Y,Y,Y,Y,Y,Y,Y,Y,Y,Y,N,N,N,N,N]) (by kernel_rfl) (fun _ _ _ _ h=>h) R (vj zObject (ja R) (ja R) Tryz.underlying22 ty_59 hq39) ?_
       refine AtH.take [0,1,2] hgd 20 R R R R (D':=#[Y,Y,Y,Y,Y,Y,Y,Y,Y,Y,Y,Y,Y,Y,Y,Y,Y,Y,Y,Y,Y,N,N,N,N]) (by kernel_rfl) (fun _ _ _ _ h=>h) R (Ji (K:=kObject) (ja R) jb6 wm) ?_
       refine AtH.take [0,1,2] hgd 21 R R R R (D':=#[Y,Y,Y,Y,Y,Y,Y,Y,Y,Y,Y,Y,Y,Y,Y,Y,Y,Y,Y,Y,Y,Y,N,N,N]) (by kernel_rfl) (fun _ _ _ _ h=>h) R (vw (K:=kPoint) (ja R) ty_37) ?_
       refine AtH.take [0,1,2] hgd 22 R R R R (D':=#[Y,Y,Y,Y,Y,Y,Y,Y,Y,Y,Y,Y,Y,Y,Y,Y,Y,Y,Y,Y,Y,Y,Y,N,N]) (by kernel_rfl) (fun _ _ _ _ h=>h) R (vd (jr (ja R) (jr (ja R) (jr (ja R) (jr (ja R) js)))) zr_49 bd_49 R (fills_cons R wr (fills_cons R yg (fills_cons R yr (fills_cons R yt fills_nil))))) ?_
       refine AtH.all1 23 (by kernel_rfl) ?_
       refine AtH.f [(0,0),(1,1),(2,2)] R R R R R R (eff_alloc R R R tz_49) (D':=#[Y,Y,Y,Y,Y,Y,Y,Y,Y,Y,Y,Y,Y,Y,Y,Y,Y,Y,Y,Y,Y,Y,Y,Y,N]) (by kernel_rfl) (by kernel_rfl) ?_
       rintro _ _ ⟨g14,rfl,rfl⟩
       refine ⟨_,.inr ⟨R,flat_eq⟩,?_⟩
       refine AtH.all1 24 (by kernel_rfl) ?_
       refine AtH.eff0 [(0,1),(1,2),(2,3)] R R R R R (jz R R (ja R) 0 R (Sub.self Vk) ty_49 (ja R)) (D':=#[Y,Y,Y,Y,Y,Y,Y,Y,Y,Y,Y,Y,Y,Y,Y,Y,Y,Y,Y,Y,Y,Y,Y,Y,Y]) (by kernel_rfl) (by kernel_rfl) ?_
       rintro _ _ ⟨rfl,rfl⟩
       refine AtH.done (by kernel_rfl) ?_
       refine At.vl ?_
       refine At.w [1,0] R [(0,(.eq v1)),(3,(.tv kStr id1)),(9,(.tv (kInt .i64) at4)),(10,(.eq (.pointer (some ⟨g14,0,none⟩))))] ⟨R,R,R,R,trivial⟩ (At.r ⟨(⟨s1.1,s1.2,(rd zObject m1.Objects r5).At,(rd zObject m1.Objects r6).At,([]:List BA)⟩:Jr),g14,hF,R,R⟩)
      ·refine AtH.f [(0,0),(1,1),(2,2)] R R R R R R (eff_alloc R R R tz_49) (D':=#[Y,Y,Y,Y,Y,Y,Y,Y,Y,Y,Y,Y,Y,Y,Y,Y,Y,Y,N,N,N,N,N,Y,N]) (by kernel_rfl) (by kernel_rfl) ?_
       rintro _ _ ⟨g15,rfl,rfl⟩
       refine ⟨_,.inr ⟨R,flat_eq⟩,?_⟩
       refine AtH.all1 18 (by kernel_rfl) ?_
       refine AtH.f [(0,1),(1,2),(2,3)] R R R R R R (jn R R jp (jq R en_87 (jf (ja R) (jf (ja R) jg))) (qo.ok hF) (by rintro _ _ ⟨r,_,rfl,_⟩;exact flat_int)) (D':=#[Y,Y,Y,Y,Y,Y,Y,Y,Y,Y,Y,Y,Y,Y,Y,Y,Y,Y,Y,N,N,N,N,Y,N]) (by kernel_rfl) (by kernel_rfl) ?_
       rintro _ _ ⟨_,_,⟨r6,hF,rfl,rfl⟩,rfl,rfl⟩
       refine ⟨_,.inr ⟨R,flat_int⟩,?_⟩
       obtain ⟨hq39,hF⟩:=hF
       refine AtH.take [0,1,2] hgd 19 R R R R (D':=#[Y,Y,Y,Y,Y,Y,Y,Y,Y,Y,Y,Y,Y,Y,Y,Y,Y,Y,Y,Y,N,N,N,Y,N]) (by kernel_rfl) (fun _ _ _ _ h=>h) R (vj zObject (ja R) (ja R) Tryz.underlying22 ty_59 hq39) ?_
       refine AtH.take [0,1,2] hgd 20 R R R R (D':=#[Y,Y,Y,Y,Y,Y,Y,Y,Y,Y,Y,Y,Y,Y,Y,Y,Y,Y,Y,Y,Y,N,N,Y,N]) (by kernel_rfl) (fun _ _ _ _ h=>h) R (Ji (K:=kObject) (ja R) jb6 wm) ?_
       refine AtH.take [0,1,2] hgd 21 R R R R (D':=#[Y,Y,Y,Y,Y,Y,Y,Y,Y,Y,Y,Y,Y,Y,Y,Y,Y,Y,Y,Y,Y,Y,N,Y,N]) (by kernel_rfl) (fun _ _ _ _ h=>h) R (vw (K:=kPoint) (ja R) ty_37) ?_
       refine AtH.take [0,1,2] hgd 22 R R R R (D':=#[Y,Y,Y,Y,Y,Y,Y,Y,Y,Y,Y,Y,Y,Y,Y,Y,Y,Y,Y,Y,Y,Y,Y,Y,N]) (by kernel_rfl) (fun _ _ _ _ h=>h) R (vd (jr (ja R) (jr (ja R) (jr (ja R) (jr (ja R) js)))) zr_49 bd_49 R (fills_cons R wr (fills_cons R yg (fills_cons R yr (fills_cons R yt fills_nil))))) ?_
       refine AtH.all1 24 (by kernel_rfl) ?_
       refine AtH.eff0 [(0,1),(1,2),(2,3)] R R R R R (jz R R (ja R) 0 R (Sub.self Vk) ty_49 (ja R)) (D':=#[Y,Y,Y,Y,Y,Y,Y,Y,Y,Y,Y,Y,Y,Y,Y,Y,Y,Y,Y,Y,Y,Y,Y,Y,Y]) (by kernel_rfl) (by kernel_rfl) ?_
       rintro _ _ ⟨rfl,rfl⟩
       refine AtH.done (by kernel_rfl) ?_
       refine At.vl ?_
       refine At.w [1,0] R [(0,(.eq v1)),(3,(.tv kStr id1)),(9,(.tv (kInt .i64) at4)),(10,(.eq (.pointer (some ⟨g15,0,none⟩))))] ⟨R,R,R,R,trivial⟩ (At.r ⟨(⟨s1.1,s1.2,(rd zObject m1.Objects r5).At,(rd zObject m1.Objects r6).At,([]:List BA)⟩:Jr),g15,hF,R,R⟩)
     ·refine AtH.f [(0,0),(1,1),(2,2)] R R R R R R (eff_alloc R R R tz_49) (D':=#[Y,Y,Y,Y,Y,Y,Y,Y,Y,N,N,N,N,Y,Y,Y,Y,Y,N,N,N,N,N,Y,N]) (by kernel_rfl) (by kernel_rfl) ?_
      rintro _ _ ⟨g16,rfl,rfl⟩
      refine ⟨_,.inr ⟨R,flat_eq⟩,?_⟩
      refine AtH.all1 9 (by kernel_rfl) ?_
      refine AtH.f [(0,1),(1,2),(2,3)] R R R R R R (jn R R jp (jq R en_87 (jf (ja R) (jf (ja R) jg))) (qo.ok hF) (by rintro _ _ ⟨r,_,rfl,_⟩;exact flat_int)) (D':=#[Y,Y,Y,Y,Y,Y,Y,Y,Y,Y,N,N,N,Y,Y,Y,Y,Y,N,N,N,N,N,Y,N]) (by kernel_rfl) (by kernel_rfl) ?_
      rintro _ _ ⟨_,_,⟨r5,hF,rfl,rfl⟩,rfl,rfl⟩
      refine ⟨_,.inr ⟨R,flat_int⟩,?_⟩
      obtain ⟨hq38,hF⟩:=hF
      replace hF:=W.vq hF
      refine AtH.take [0,1,2] hgd 10 R R R R (D':=#[Y,Y,Y,Y,Y,Y,Y,Y,Y,Y,Y,N,N,Y,Y,Y,Y,Y,N,N,N,N,N,Y,N]) (by kernel_rfl) (fun _ _ _ _ h=>h) R (vj zObject (ja R) (ja R) Tryz.underlying22 ty_59 hq38) ?_
      refine AtH.take [0,1,2] hgd 11 R R R R (D':=#[Y,Y,Y,Y,Y,Y,Y,Y,Y,Y,Y,Y,N,Y,Y,Y,Y,Y,N,N,N,N,N,Y,N]) (by kernel_rfl) (fun _ _ _ _ h=>h) R (Ji (K:=kObject) (ja R) jb6 wm) ?_
      refine AtH.take [0,1,2] hgd 12 R R R R (D':=#[Y,Y,Y,Y,Y,Y,Y,Y,Y,Y,Y,Y,Y,Y,Y,Y,Y,Y,N,N,N,N,N,Y,N]) (by kernel_rfl) (fun _ _ _ _ h=>h) R (vw (K:=kPoint) (ja R) ty_37) ?_
      refine AtH.all1 18 (by kernel_rfl) ?_
      refine AtH.f [(0,1),(1,2),(2,3)] R R R R R R (jn R R jp (jq R en_87 (jf (ja R) (jf (ja R) jg))) (qo.ok hF) (by rintro _ _ ⟨r,_,rfl,_⟩;exact flat_int)) (D':=#[Y,Y,Y,Y,Y,Y,Y,Y,Y,Y,Y,Y,Y,Y,Y,Y,Y,Y,Y,N,N,N,N,Y,N]) (by kernel_rfl) (by kernel_rfl) ?_
      rintro _ _ ⟨_,_,⟨r6,hF,rfl,rfl⟩,rfl,rfl⟩
      refine ⟨_,.inr ⟨R,flat_int⟩,?_⟩
      obtain ⟨hq39,hF⟩:=hF
      refine AtH.take [0,1,2] hgd 19 R R R R (D':=#[Y,Y,Y,Y,Y,Y,Y,Y,Y,Y,Y,Y,Y,Y,Y,Y,Y,Y,Y,Y,N,N,N,Y,N]) (by kernel_rfl) (fun _ _ _ _ h=>h) R (vj zObject (ja R) (ja R) Tryz.underlying22 ty_59 hq39) ?_
      refine AtH.take [0,1,2] hgd 20 R R R R (D':=#[Y,Y,Y,Y,Y,Y,Y,Y,Y,Y,Y,Y,Y,Y,Y,Y,Y,Y,Y,Y,Y,N,N,Y,N]) (by kernel_rfl) (fun _ _ _ _ h=>h) R (Ji (K:=kObject) (ja R) jb6 wm) ?_
      refine AtH.take [0,1,2] hgd 21 R R R R (D':=#[Y,Y,Y,Y,Y,Y,Y,Y,Y,Y,Y,Y,Y,Y,Y,Y,Y,Y,Y,Y,Y,Y,N,Y,N]) (by kernel_rfl) (fun _ _ _ _ h=>h) R (vw (K:=kPoint) (ja R) ty_37) ?_
      refine AtH.take [0,1,2] hgd 22 R R R R (D':=#[Y,Y,Y,Y,Y,Y,Y,Y,Y,Y,Y,Y,Y,Y,Y,Y,Y,Y,Y,Y,Y,Y,Y,Y,N]) (by kernel_rfl) (fun _ _ _ _ h=>h) R (vd (jr (ja R) (jr (ja R) (jr (ja R) (jr (ja R) js)))) zr_49 bd_49 R (fills_cons R wr (fills_cons R yg (fills_cons R yr (fills_cons R yt fills_nil))))) ?_
      refine AtH.all1 24 (by kernel_rfl) ?_
      refine AtH.eff0 [(0,1),(1,2),(2,3)] R R R R R (jz R R (ja R) 0 R (Sub.self Vk) ty_49 (ja R)) (D':=#[Y,Y,Y,Y,Y,Y,Y,Y,Y,Y,Y,Y,Y,Y,Y,Y,Y,Y,Y,Y,Y,Y,Y,Y,Y]) (by kernel_rfl) (by kernel_rfl) ?_
      rintro _ _ ⟨rfl,rfl⟩
      refine AtH.done (by kernel_rfl) ?_
      refine At.vl ?_
      refine At.w [1,0] R [(0,(.eq v1)),(3,(.tv kStr id1)),(9,(.tv (kInt .i64) at4)),(10,(.eq (.pointer (some ⟨g16,0,none⟩))))] ⟨R,R,R,R,trivial⟩ (At.r ⟨(⟨s1.1,s1.2,(rd zObject m1.Objects r5).At,(rd zObject m1.Objects r6).At,([]:List BA)⟩:Jr),g16,hF,R,R⟩)
    ·rintro _ _ ⟨x3,g12,hF,rfl,rfl⟩
     unfold Vj.c3 at hF
     refine At.draw mixed [0,1] R [[],[]] (fun φ w hgd=>?_)
     obtain ⟨hq32,hF⟩:=hF
     obtain ⟨hq33,hF⟩:=hF
     obtain ⟨hq34,hF⟩:=hF
     obtain ⟨hq35,hF⟩:=hF
     obtain ⟨hq36,hF⟩:=hF
     obtain ⟨hq37,hF⟩:=hF
     refine AtH.take [0,1] hgd 1 R R R R (D':=#[N,Y,N,N,N,N,N,N,N,N,N,N,N]) (by kernel_rfl) (fun _ _ _ _ h=>h) R (jb (x:=(.eq v1)) (ja R)) ?_
     refine AtH.take [0,1] hgd 2 R R R R (D':=#[N,Y,Y,N,N,N,N,N,N,N,N,N,N]) (by kernel_rfl) (fun _ _ _ _ h=>h) R (jb (x:=(.tv (kInt .i64) at4)) (ja R)) ?_
     refine AtH.take [0,1] hgd 3 R R R R (D':=#[N,Y,Y,Y,N,N,N,N,N,N,N,N,N]) (by kernel_rfl) (fun _ _ _ _ h=>h) R (does_cutrow_h (ja R) 0 R (ja R) Tryz.underlying45 ty_49 hq32) ?_
     refine AtH.take [0,1] hgd 5 R R R R (D':=#[N,Y,Y,Y,N,Y,N,N,N,N,N,N,N]) (by kernel_rfl) (fun _ _ _ _ h=>h) R (jc (ja R) 1 R (Sub.self Vk) ty_49) ?_
     refine AtH.take [0,1] hgd 8 R R R R (D':=#[N,Y,Y,Y,N,Y,N,N,Y,N,N,N,N]) (by kernel_rfl) (fun _ _ _ _ h=>h) R (jb (x:=(.eq v1)) (ja R)) ?_
     refine AtH.take [0,1] hgd 9 R R R R (D':=#[N,Y,Y,Y,N,Y,N,N,Y,Y,N,N,N]) (by kernel_rfl) (fun _ _ _ _ h=>h) R (jb (x:=(.tv (kInt .i64) at4)) (ja R)) ?_
     refine AtH.take [0,1] hgd 10 R R R R (D':=#[N,Y,Y,Y,N,Y,N,N,Y,Y,Y,N,N]) (by kernel_rfl) (fun _ _ _ _ h=>h) R (does_cutrow_l (ja R) 0 R (ja R) Tryz.underlying45 ty_49 hq32) ?_
     refine AtH.all2 0 6 (by kernel_rfl) ?_ ?_
     ·refine AtH.f [(0,0),(1,1)] R R R R R R (vc R R R (os:=[]) R sl_45 (xs:=([]:List Jr)) jg R R) (D':=#[Y,Y,Y,Y,N,Y,N,N,Y,Y,Y,N,N]) (by kernel_rfl) (by kernel_rfl) ?_
      rintro _ _ ⟨v31,rfl,rfl⟩
      refine ⟨_,.inr ⟨R,flat_eq⟩,?_⟩
      refine AtH.all2 4 6 (by kernel_rfl) ?_ ?_
      ·refine AtH.f [(0,1),(1,2)] R R R R R R (eff_append_cut R R R 0 1 R R (ja R) (ja R) hq33 sl_45 hq34) (D':=#[Y,Y,Y,Y,Y,Y,N,N,Y,Y,Y,N,N]) (by kernel_rfl) (by kernel_rfl) ?_
       rintro _ _ ⟨v32,rfl,rfl⟩
       refine ⟨_,.inr ⟨R,flat_eq⟩,?_⟩
       refine AtH.all1 6 (by kernel_rfl) ?_
       refine AtH.f [(0,1),(1,2)] R R R R R R (vc R R R (os:=[.tmp 100]) R sl_45 (xs:=([x3]:List Jr)) (jf (ja R) jg) R R) (D':=#[Y,Y,Y,Y,Y,Y,Y,N,Y,Y,Y,N,N]) (by kernel_rfl) (by kernel_rfl) ?_
       rintro _ _ ⟨v33,rfl,rfl⟩
       refine ⟨_,.inr ⟨R,flat_eq⟩,?_⟩
       refine AtH.all1 7 (by kernel_rfl) ?_
       refine AtH.f [(0,2),(1,3)] R R R R R R (eff_append_row R R R 1 0 R R (ja R) (ja R) sl_45 hq35) (D':=#[Y,Y,Y,Y,Y,Y,Y,Y,Y,Y,Y,N,N]) (by kernel_rfl) (by kernel_rfl) ?_
       rintro _ _ ⟨v34,rfl,rfl⟩
       refine ⟨_,.inr ⟨R,flat_eq⟩,?_⟩
       refine AtH.all1 11 (by kernel_rfl) ?_
       refine AtH.f [(0,2),(1,3)] R R R R R R (eff_append_cut R R R 1 2 R R (ja R) (ja R) hq36 sl_45 hq37) (D':=#[Y,Y,Y,Y,Y,Y,Y,Y,Y,Y,Y,Y,N]) (by kernel_rfl) (by kernel_rfl) ?_
       rintro _ _ ⟨v35,rfl,rfl⟩
       refine ⟨_,.inr ⟨R,flat_eq⟩,?_⟩
       refine AtH.take [0,1] hgd 12 R R R R (D':=#[Y,Y,Y,Y,Y,Y,Y,Y,Y,Y,Y,Y,Y]) (by kernel_rfl) (fun _ _ _ _ h=>h) R (jd (x:=(.eq v35)) (ja R)) ?_
       refine AtH.done (by kernel_rfl) ?_
       refine At.vl ?_
       refine At.w [1] R [(0,(.eq v35)),(3,(.tv kStr id1)),(9,(.tv (kInt .i64) at4))] ⟨R,R,R,trivial⟩ (At.r ⟨(((([]:List Jr)++((l1.take at4.toNat).drop 0))++([x3]:List Jr))++((l1.take l1.length).drop at4.toNat)),v35,hF,R,R⟩)
      ·refine AtH.f [(0,1),(1,2)] R R R R R R (vc R R R (os:=[.tmp 100]) R sl_45 (xs:=([x3]:List Jr)) (jf (ja R) jg) R R) (D':=#[Y,Y,Y,Y,N,Y,Y,N,Y,Y,Y,N,N]) (by kernel_rfl) (by kernel_rfl) ?_
       rintro _ _ ⟨v36,rfl,rfl⟩
       refine ⟨_,.inr ⟨R,flat_eq⟩,?_⟩
       refine AtH.all1 4 (by kernel_rfl) ?_
       refine AtH.f [(0,2),(1,3)] R R R R R R (eff_append_cut R R R 1 2 R R (ja R) (ja R) hq33 sl_45 hq34) (D':=#[Y,Y,Y,Y,Y,Y,Y,N,Y,Y,Y,N,N]) (by kernel_rfl) (by kernel_rfl) ?_
       rintro _ _ ⟨v37,rfl,rfl⟩
       refine ⟨_,.inr ⟨R,flat_eq⟩,?_⟩
       refine AtH.all1 7 (by kernel_rfl) ?_
       refine AtH.f [(0,2),(1,3)] R R R R R R (eff_append_row R R R 1 0 R R (ja R) (ja R) sl_45 hq35) (D':=#[Y,Y,Y,Y,Y,Y,Y,Y,Y,Y,Y,N,N]) (by kernel_rfl) (by kernel_rfl) ?_
       rintro _ _ ⟨v38,rfl,rfl⟩
       refine ⟨_,.inr ⟨R,flat_eq⟩,?_⟩
       refine AtH.all1 11 (by kernel_rfl) ?_
       refine AtH.f [(0,2),(1,3)] R R R R R R (eff_append_cut R R R 1 2 R R (ja R) (ja R) hq36 sl_45 hq37) (D':=#[Y,Y,Y,Y,Y,Y,Y,Y,Y,Y,Y,Y,N]) (by kernel_rfl) (by kernel_rfl) ?_
       rintro _ _ ⟨v39,rfl,rfl⟩
       refine ⟨_,.inr ⟨R,flat_eq⟩,?_⟩
       refine AtH.take [0,1] hgd 12 R R R R (D':=#[Y,Y,Y,Y,Y,Y,Y,Y,Y,Y,Y,Y,Y]) (by kernel_rfl) (fun _ _ _ _ h=>h) R (jd (x:=(.eq v39)) (ja R)) ?_
       refine AtH.done (by kernel_rfl) ?_
       refine At.vl ?_
       refine At.w [1] R [(0,(.eq v39)),(3,(.tv kStr id1)),(9,(.tv (kInt .i64) at4))] ⟨R,R,R,trivial⟩ (At.r ⟨(((([]:List Jr)++((l1.take at4.toNat).drop 0))++([x3]:List Jr))++((l1.take l1.length).drop at4.toNat)),v39,hF,R,R⟩)
     ·refine AtH.f [(0,0),(1,1)] R R R R R R (vc R R R (os:=[.tmp 100]) R sl_45 (xs:=([x3]:List Jr)) (jf (ja R) jg) R R) (D':=#[N,Y,Y,Y,N,Y,Y,N,Y,Y,Y,N,N]) (by kernel_rfl) (by kernel_rfl) ?_
      rintro _ _ ⟨v40,rfl,rfl⟩
      refine ⟨_,.inr ⟨R,flat_eq⟩,?_⟩
      refine AtH.all1 0 (by kernel_rfl) ?_
      refine AtH.f [(0,1),(1,2)] R R R R R R (vc R R R (os:=[]) R sl_45 (xs:=([]:List Jr)) jg R R) (D':=#[Y,Y,Y,Y,N,Y,Y,N,Y,Y,Y,N,N]) (by kernel_rfl) (by kernel_rfl) ?_
      rintro _ _ ⟨v41,rfl,rfl⟩
      refine ⟨_,.inr ⟨R,flat_eq⟩,?_⟩
      refine AtH.all1 4 (by kernel_rfl) ?_
      refine AtH.f [(0,2),(1,3)] R R R R R R (eff_append_cut R R R 0 2 R R (ja R) (ja R) hq33 sl_45 hq34) (D':=#[Y,Y,Y,Y,Y,Y,Y,N,Y,Y,Y,N,N]) (by kernel_rfl) (by kernel_rfl) ?_
      rintro _ _ ⟨v42,rfl,rfl⟩
      refine ⟨_,.inr ⟨R,flat_eq⟩,?_⟩
      refine AtH.all1 7 (by kernel_rfl) ?_
      refine AtH.f [(0,2),(1,3)] R R R R R R (eff_append_row R R R 0 1 R R (ja R) (ja R) sl_45 hq35) (D':=#[Y,Y,Y,Y,Y,Y,Y,Y,Y,Y,Y,N,N]) (by kernel_rfl) (by kernel_rfl) ?_
      rintro _ _ ⟨v43,rfl,rfl⟩
      refine ⟨_,.inr ⟨R,flat_eq⟩,?_⟩
      refine AtH.all1 11 (by kernel_rfl) ?_
      refine AtH.f [(0,2),(1,3)] R R R R R R (eff_append_cut R R R 0 2 R R (ja R) (ja R) hq36 sl_45 hq37) (D':=#[Y,Y,Y,Y,Y,Y,Y,Y,Y,Y,Y,Y,N]) (by kernel_rfl) (by kernel_rfl) ?_
      rintro _ _ ⟨v44,rfl,rfl⟩
      refine ⟨_,.inr ⟨R,flat_eq⟩,?_⟩
      refine AtH.take [0,1] hgd 12 R R R R (D':=#[Y,Y,Y,Y,Y,Y,Y,Y,Y,Y,Y,Y,Y]) (by kernel_rfl) (fun _ _ _ _ h=>h) R (jd (x:=(.eq v44)) (ja R)) ?_
      refine AtH.done (by kernel_rfl) ?_
      refine At.vl ?_
      refine At.w [0] R [(0,(.eq v44)),(3,(.tv kStr id1)),(9,(.tv (kInt .i64) at4))] ⟨R,R,R,trivial⟩ (At.r ⟨(((([]:List Jr)++((l1.take at4.toNat).drop 0))++([x3]:List Jr))++((l1.take l1.length).drop at4.toNat)),v44,hF,R,R⟩)
   ·replace hF:=W.ite_f hb5 hF
    refine At.skip (At.vl ?_)
    refine At.w [0] R [(0,(.eq v1)),(3,(.tv kStr id1)),(9,(.tv (kInt .i64) at4))] ⟨R,R,R,trivial⟩ (At.r ⟨l1,v1,hF,R,R⟩)
  ·rintro _ _ ⟨x2,v21,hF,rfl,rfl⟩
   unfold Vj.c2 at hF
   refine At.seq (At.region (At.d R R R R (jb (x:=(.eq v21)) (ja R)) ?_))
   refine At.d R R R R (jb (x:=(.tv (kInt .i64) at4)) (ja R)) ?_
   obtain ⟨hq17,hF⟩:=hF
   refine At.d R R R R (does_idx_row (ja R) 0 R (ja R) Tryz.underlying45 ty_49 hq17) ?_
   refine At.d R R R R (does_field_elem (ja R) fa_49_4) ?_
   obtain ⟨hq18,hF⟩:=hF
   refine At.d R R R R (Jh (ja R) 0 R at4 6 R Je hq18 zl ty_41) ?_
   refine At.d R R R R (jt (ja R) Tryz.underlying41) ?_
   refine At.d R R R R (jd (x:=(.tv (kInt .i64) (((rd Je x2 at4).Owners).length:Int))) (ja R)) ?_
   refine At.done (At.vl (At.seq (At.seq (At.region (At.d R R R R (jb (x:=(.tv (kInt .i64) (((rd Je x2 at4).Owners).length:Int))) (ja R)) ?_)))))
   refine At.d R R R R (jk (ja R) (ji _ _) bin_eql) ?_
   refine At.d R R R R (jb (x:=(.tv kBool ((((rd Je x2 at4).Owners).length:Int)==(0:Int)))) (ja R)) ?_
   refine At.vn R R R R (jx R) R (fun hg145=>(jb (x:=(.eq v21)) (ja R))) ?_
   refine At.vn R R R R (jx R) R (fun hg146=>(jb (x:=(.tv (kInt .i64) at4)) (ja R))) ?_
   obtain ⟨hq19,hF⟩:=hF
   refine At.vn R R R R (jx R) R (fun hg147=>(does_idx_row (jh R hg147) 0 R (jh R hg147) Tryz.underlying45 ty_49 (hq19 hg147))) ?_
   refine At.vn R R R R (jx R) R (fun hg148=>(does_field_elem (jh R hg148) fa_49_4)) ?_
   obtain ⟨hq20,hF⟩:=hF
   refine At.vn R R R R (jx R) R (fun hg149=>(Jh (jh R hg149) 0 R at4 6 R Je (hq20 hg149) zl ty_41)) ?_
   refine At.vn R R R R (jx R) R (fun hg150=>(jb (x:=(.tv (kInt .i64) (((rd Je x2 at4).Owners).length:Int))) (ja R))) ?_
   refine At.vn R R R R (jx R) R (fun hg151=>(jk (jh R hg151) (ji _ _) bin_sub)) ?_
   obtain ⟨hq21,hF⟩:=hF
   refine At.vn R R R R (jx R) R (fun hg152=>(vj (⟨#[]⟩:BA) (jh R hg152) (jh R hg152) Tryz.underlying41 ty_9 (hq21 hg152))) ?_
   refine At.vn R R R R (jx R) R (fun hg153=>(vw (K:=kStr) (jh R hg153) ty_9)) ?_
   refine At.vn R R R R (jx R) R (fun hg154=>(jb (x:=(.tv kStr id1)) (ja R))) ?_
   refine At.vn R R R R (jx R) R (fun hg155=>(jk (jh R hg155) (jh R hg155) bin_sneq)) ?_
   refine At.d R R R R (jm (ja R) (jl _) (ja R) vi) ?_
   refine At.done (At.vl ?_)
   refine At.cond (ja R) (fun hb4=>?_) (fun hb4=>?_)
   ·replace hF:=W.ite_t hb4 hF
    refine At.region (At.d R R R R (jb (x:=(.eq v21)) (ja R)) ?_)
    refine At.d R R R R (jb (x:=(.tv (kInt .i64) at4)) (ja R)) ?_
    refine At.f R (vc R R R (os:=[]) R sl_41 (xs:=([]:List BA)) jg R R) ?_
    rintro _ _ ⟨v22,rfl,rfl⟩
    refine At.d R R R R (jb (x:=(.eq v21)) (ja R)) ?_
    refine At.d R R R R (jb (x:=(.tv (kInt .i64) at4)) (ja R)) ?_
    obtain ⟨hq22,hF⟩:=hF
    refine At.d R R R R (does_idx_row (ja R) 1 R (ja R) Tryz.underlying45 ty_49 hq22) ?_
    refine At.d R R R R (does_field_elem (ja R) fa_49_4) ?_
    obtain ⟨hq23,hF⟩:=hF
    refine At.d R R R R (Jh (ja R) 1 R at4 6 R Je hq23 zl ty_41) ?_
    obtain ⟨hq24,hF⟩:=hF
    refine At.f R (eff_append_view R R R 0 R (ja R) (ja R) sl_41 hq24) ?_
    rintro _ _ ⟨v23,rfl,rfl⟩
    refine At.d R R R R (jb (x:=(.tv kStr id1)) (ja R)) ?_
    refine At.f R (vc R R R (os:=[.tmp 137]) R sl_41 (xs:=([id1]:List BA)) (jf (ja R) jg) R R) ?_
    rintro _ _ ⟨v24,rfl,rfl⟩
    obtain ⟨hq25,hF⟩:=hF
    refine At.f R (eff_append_row R R R 1 0 R R (ja R) (ja R) sl_41 hq25) ?_
    rintro _ _ ⟨v25,rfl,rfl⟩
    obtain ⟨hq26,hF⟩:=hF
    refine At.d R R R R (does_idx_row (ja R) 2 R (ja R) Tryz.underlying45 ty_49 hq26) ?_
    refine At.d R R R R (does_field_elem (ja R) fa_49_4) ?_
    refine At.freeze 1 139 R R ?_
    obtain ⟨hq27,hF⟩:=hF
    refine At.f R (eff_store_elem R R (ja R) 2 R at4 6 R Je hq27 zl ty_41 (ja R)) ?_
    rintro _ _ ⟨rfl,rfl⟩
    refine At.done (At.vl (At.seq (At.region (At.d R R R R (jb (x:=(.eq v21)) (ja R)) ?_))))
    refine At.d R R R R (jd (x:=(.eq v21)) (ja R)) ?_
    refine At.done (At.vl (At.ret ?_))
    exact At.j rfl (rv_tmp rfl) [2] rfl ⟨(x2.set at4.toNat ({ (rd Je x2 at4) with Owners:=((([]:List BA)++((rd Je x2 at4).Owners))++([id1]:List BA)) }:Jr)),_,hF,rfl,rfl⟩
   ·replace hF:=W.ite_f hb4 hF
    refine At.skip (At.vl (At.seq (At.region (At.d R R R R (jb (x:=(.eq v21)) (ja R)) ?_))))
    refine At.d R R R R (jd (x:=(.eq v21)) (ja R)) ?_
    refine At.done (At.vl (At.ret ?_))
    exact At.j rfl (rv_tmp rfl) [0] rfl ⟨x2,_,hF,rfl,rfl⟩
def Vf.c1 (x12:(List Jr)):W (List Jr):=W.ret x12
def Vf.c2 (i6:Int) (A1:(List Jr)→Int→W (List Jr)) (x27:(List Jr)):W (List Jr):=A1 x27 (w64 (i6+(1:Int)))
def Vf.l2 (m1:Map) (i6:Int) (K2:(List Jr)→W (List Jr)) (r27:(List (BA×BA))) (A2:(List Jr)→Int→W (List Jr)) (x30:(List Jr)) (k18:Int):W (List Jr):=W.bind (W.ite (decide (k18<(r27.length:Int))) (Vs.F m1 (rd zObject m1.Objects i6)) (W.ret false)) (fun r32=>W.ite ((decide (k18<(r27.length:Int)))&&r32) (W.req (0≤k18∧k18<(r27.length:Int)) (W.bind (Vj.F x30 m1 (rd ((⟨#[]⟩:BA),(⟨#[]⟩:BA)) r27 k18) ((rd zObject m1.Objects i6).Id)) (fun r33=>A2 r33 (w64 (k18+(1:Int)))))) (K2 x30))
def Vf.l1 (m1:Map) (K1:(List Jr)→W (List Jr)) (A1:(List Jr)→Int→W (List Jr)) (x23:(List Jr)) (i6:Int):W (List Jr):=W.ite (decide (i6<(m1.Objects.length:Int))) (W.req (0≤i6∧i6<(m1.Objects.length:Int)) (W.bind (Vp.F (rd zObject m1.Objects i6)) (fun r27=>W.ex fun n=>W.iter2 (Vf.l2 m1 i6 (Vf.c2 i6 A1) r27) n x23 (0:Int)))) (K1 x23)
def Vf.F (m1:Map):W (List Jr):=W.bind (qy.F m1) (fun r1=>W.ite (!r1) (W.ret ([]:List Jr)) (W.ex fun n=>W.iter2 (Vf.l1 m1 (Vf.c1)) n ([]:List Jr) (0:Int)))
theorem Vf.ok {m1:Map} {Q:(List Jr)→Prop} (hF:Vf.F m1 Q):Con Tryz.prog 22 [.tv kMap m1] [] (fun ta rs'=>∃ (r:(List Jr)) (u0:Value),Q r∧ta=.eq u0∧rs'=[.row u0 49 Vk r]):=by
 refine Con.i Tryz.func22 Tryz.ntmps22 R R (fun C=>?_)
 unfold Vf.F at hF
 refine At.seq (At.region (At.f R (jy R R R (ja R)) ?_))
 rintro _ _ ⟨g1,rfl,rfl⟩
 refine At.d R R R R (jd (x:=(.eq (.slice none 0 0))) (opd_eq _)) ?_
 refine At.done (At.vl (At.seq (At.region (At.d R R R R (jd (x:=(.eq (.slice none 0 0))) (opd_eq _)) ?_))))
 refine At.done (At.vl (At.seq (At.seq (At.region (At.d R R R R (jc (ja R) 0 R (Sub.self kMap) ty_24) ?_)))))
 replace hF:=W.vq hF
 refine At.f R (jn R R jp (jq R en_47 (jf (ja R) jg)) (qy.ok hF) (by rintro _ _ ⟨r,_,rfl,_⟩;exact vp)) ?_
 rintro _ _ ⟨_,_,⟨r1,hF,rfl,rfl⟩,rfl,rfl⟩
 refine At.d R R R R (ve (ja R)) ?_
 refine At.done (At.vl ?_)
 refine At.cond (ja R) (fun hb1=>?_) (fun hb1=>?_)
 ·replace hF:=W.ite_t hb1 hF
  refine At.seq (At.region (At.d R R R R (jd (x:=(.eq (.slice none 0 0))) (opd_eq _)) ?_))
  refine At.done (At.vl (At.ret (At.vm ?_)))
  refine At.nilrow 49 Vk ?_
  exact At.j rfl (rv_tmp rfl) [0] rfl ⟨([]:List Jr),_,hF,rfl,rfl⟩
 ·replace hF:=W.ite_f hb1 hF
  refine At.skip (At.vl ?_)
  refine At.cut (fun rs L=>∃ (x12:(List Jr)) (v22:Value),Vf.c1 x12 Q∧rs=[.row v22 49 Vk x12]∧L=mkL [(3,(.eq v22))]) ?_ ?_
  ·refine At.seq (At.region (At.d R R R R (jd (x:=(.tv (kInt .i64) (0:Int))) (ji _ _)) ?_))
   refine At.done (At.vl (At.block ?_))
   refine At.nilrow 49 Vk ?_
   obtain ⟨n2,hF⟩:=hF
   refine At.w [1,0] R [(1,(.eq (.pointer (some ⟨g1,0,none⟩)))),(3,(.eq (.slice none 0 0))),(4,(.tv (kInt .i64) (0:Int)))] ⟨R,R,R,trivial⟩ ?_
   refine At.loop (fun m rs L=>∃ (x23:(List Jr)) (v43:Value) (i6:Int),W.iter2 (Vf.l1 m1 (Vf.c1)) m x23 i6 Q∧rs=[.box g1 24 kMap m1,.row v43 49 Vk x23]∧L=mkL [(1,(.eq (.pointer (some ⟨g1,0,none⟩)))),(3,(.eq v43)),(4,(.tv (kInt .i64) i6))]) ?_ ?_ (m:=n2) ⟨([]:List Jr),(.slice none 0 0),(0:Int),hF,R,R⟩
   ·rintro rs L ⟨_,_,_,hF,_,_⟩;exact hF
   ·rintro m2 _ _ ⟨x23,v43,i6,hF,rfl,rfl⟩
    replace hF:=W.iter2_s hF
    unfold Vf.l1 at hF
    refine At.seq (At.seq (At.region (At.d R R R R (jb (x:=(.tv (kInt .i64) i6)) (ja R)) ?_)))
    refine At.d R R R R (je (ja R) qq) ?_
    refine At.d R R R R (jc (ja R) 0 R qc ty_22) ?_
    refine At.d R R R R (jt (ja R) Tryz.underlying22) ?_
    refine At.d R R R R (jk (ja R) (ja R) vg) ?_
    refine At.done (At.vl ?_)
    refine At.cond (ja R) (fun hb14=>?_) (fun hb14=>?_)
    ·replace hF:=W.ite_t hb14 hF
     refine At.skip (At.vl ?_)
     refine At.cut (fun rs L=>∃ (x27:(List Jr)) (v52:Value),Vf.c2 i6 (W.iter2 (Vf.l1 m1 (Vf.c1)) m2) x27 Q∧rs=[.box g1 24 kMap m1,.row v52 49 Vk x27]∧L=mkL [(1,(.eq (.pointer (some ⟨g1,0,none⟩)))),(3,(.eq v52)),(4,(.tv (kInt .i64) i6))]) ?_ ?_
     ·refine At.block (At.seq (At.region (At.d R R R R (je (ja R) qq) ?_)))
      refine At.d R R R R (jc (ja R) 0 R qc ty_22) ?_
      refine At.d R R R R (jb (x:=(.tv (kInt .i64) i6)) (ja R)) ?_
      obtain ⟨hq16,hF⟩:=hF
      refine At.d R R R R (vj zObject (ja R) (ja R) Tryz.underlying22 ty_59 hq16) ?_
      refine At.d R R R R (vw (K:=kObject) (ja R) ty_59) ?_
      refine At.f R (eff_alloc R R R tz_59) ?_
      rintro _ _ ⟨g7,rfl,rfl⟩
      refine At.f R (jz R R (ja R) 0 R (Sub.self kObject) ty_59 (ja R)) ?_
      rintro _ _ ⟨rfl,rfl⟩
      refine At.done (At.vl (At.seq (At.region (At.d R R R R (jc (ja R) 0 R (Sub.self kObject) ty_59) ?_))))
      replace hF:=W.vq hF
      refine At.f R (jo R R (jq R en_51 (jf (ja R) jg)) [] R (Vp.ok hF)) ?_
      rintro _ _ ⟨_,_,⟨r27,v53,hF,rfl,rfl⟩,rfl,rfl⟩
      refine At.d R R R R (jd (x:=(.eq v53)) (ja R)) ?_
      refine At.done (At.vl (At.seq (At.region (At.d R R R R (jd (x:=(.tv (kInt .i64) (0:Int))) (ji _ _)) ?_))))
      refine At.done (At.vl (At.block ?_))
      obtain ⟨n1,hF⟩:=hF
      refine At.w [2,3,1,0] R [(1,(.eq (.pointer (some ⟨g1,0,none⟩)))),(3,(.eq v43)),(4,(.tv (kInt .i64) i6)),(5,(.eq (.pointer (some ⟨g7,0,none⟩)))),(6,(.eq v53)),(7,(.tv (kInt .i64) (0:Int)))] ⟨R,R,R,R,R,R,trivial⟩ ?_
      refine At.loop (fun m rs L=>∃ (x30:(List Jr)) (v60:Value) (k18:Int),W.iter2 (Vf.l2 m1 i6 (Vf.c2 i6 (W.iter2 (Vf.l1 m1 (Vf.c1)) m2)) r27) m x30 k18 Q∧rs=[.box g1 24 kMap m1,.row v60 49 Vk x30,.box g7 59 kObject (rd zObject m1.Objects i6),.row v53 50 (kPair kStr kStr) r27]∧L=mkL [(1,(.eq (.pointer (some ⟨g1,0,none⟩)))),(3,(.eq v60)),(4,(.tv (kInt .i64) i6)),(5,(.eq (.pointer (some ⟨g7,0,none⟩)))),(6,(.eq v53)),(7,(.tv (kInt .i64) k18))]) ?_ ?_ (m:=n1) ⟨x23,v43,(0:Int),hF,R,R⟩
      ·rintro rs L ⟨_,_,_,hF,_,_⟩;exact hF
      ·rintro m3 _ _ ⟨x30,v60,k18,hF,rfl,rfl⟩
       replace hF:=W.iter2_s hF
       unfold Vf.l2 at hF
       refine At.seq (At.seq (At.region (At.d R R R R (jb (x:=(.tv (kInt .i64) k18)) (ja R)) ?_)))
       refine At.d R R R R (jb (x:=(.eq v53)) (ja R)) ?_
       refine At.d R R R R (does_len_row (ja R) 3 R Tryz.underlying51) ?_
       refine At.d R R R R (jk (ja R) (ja R) vg) ?_
       refine At.d R R R R (jb (x:=(.tv kBool (decide (k18<(r27.length:Int))))) (ja R)) ?_
       refine At.vn R R R R (jw R) R (fun hg37=>(jc (ja R) 0 R (Sub.self kMap) ty_24)) ?_
       refine At.vn R R R R (jw R) R (fun hg38=>(jc (ja R) 2 R (Sub.self kObject) ty_59)) ?_
       replace hF:=W.vq hF
       refine At.effG R R R R (jw R) hF (fun r=>.tv kBool r) (fun hg39 hF=>vr (jn R R jp (jq R en_52 (jf (jh R hg39) (jf (jh R hg39) jg))) (Vs.ok hF) (by rintro _ _ ⟨r,_,rfl,_⟩;exact vp)) (by rintro _ _ ⟨_,_,⟨r,hF,rfl,rfl⟩,rfl,rfl⟩;exact ⟨r,hF,R,R⟩)) (fun r32 hF=>?_)
       refine At.d R R R R (jm (ja R) (ja R) (jl _) vh) ?_
       refine At.done (At.vl ?_)
       refine At.cond (ja R) (fun hb19=>?_) (fun hb19=>?_)
       ·replace hF:=W.ite_t hb19 hF
        refine At.skip (At.vl (At.seq (At.block ?_)))
        refine At.draw mixed [0,1,2,3] R [[],[8],[],[]] (fun φ w hgd=>?_)
        obtain ⟨hq19,hF⟩:=hF
        replace hF:=W.vq hF
        refine AtH.take [0,1,2,3] hgd 0 R R R R (D':=#[Y,N,N,N,N,N,N,N,N,N]) (by kernel_rfl) (fun _ _ _ _ h=>h) R (jb (x:=(.eq v60)) (ja R)) ?_
        refine AtH.take [0,1,2,3] hgd 1 R R R R (D':=#[Y,Y,N,N,N,N,N,N,N,N]) (by kernel_rfl) (fun _ _ _ _ h=>h) R (jc (ja R) 0 R (Sub.self kMap) ty_24) ?_
        refine AtH.take [0,2,3] hgd 2 R R R R (D':=#[Y,Y,Y,N,N,N,N,N,N,N]) (by kernel_rfl) (fun _ _ _ _ h=>h) R (jb (x:=(.eq v53)) (ja R)) ?_
        refine AtH.take [0,2,3] hgd 3 R R R R (D':=#[Y,Y,Y,Y,N,N,N,N,N,N]) (by kernel_rfl) (fun _ _ _ _ h=>h) R (jb (x:=(.tv (kInt .i64) k18)) (ja R)) ?_
        refine AtH.take [0,2,3] hgd 4 R R R R (D':=#[Y,Y,Y,Y,Y,N,N,N,N,N]) (by kernel_rfl) (fun _ _ _ _ h=>h) R (does_idx_row (ja R) 2 R (ja R) Tryz.underlying51 ty_50 hq19) ?_
        refine AtH.take [0,1,2,3] hgd 5 R R R R (D':=#[Y,Y,Y,Y,Y,Y,N,N,N,N]) (by kernel_rfl) (fun _ _ _ _ h=>h) R (Jh (ja R) 3 R k18 0 R ((⟨#[]⟩:BA),(⟨#[]⟩:BA)) hq19 (Sub.self (kPair kStr kStr)) ty_50) ?_
        refine AtH.take [0,2,3] hgd 6 R R R R (D':=#[Y,Y,Y,Y,Y,Y,Y,N,N,N]) (by kernel_rfl) (fun _ _ _ _ h=>h) R (je (ja R) zg) ?_
        refine AtH.take [0,1,2,3] hgd 7 R R R R (D':=#[Y,Y,Y,Y,Y,Y,Y,Y,N,N]) (by kernel_rfl) (fun _ _ _ _ h=>h) R (jc (ja R) 2 R qm ty_9) ?_
        refine AtH.all1 8 (by kernel_rfl) ?_
        refine AtH.f [(0,0),(2,2),(3,3)] R R R R R R (jo R R (jq R en_53 (jf (ja R) (jf (ja R) (jf (ja R) (jf (ja R) jg))))) [1] R (Vj.ok hF)) (D':=#[Y,Y,Y,Y,Y,Y,Y,Y,Y,N]) (by kernel_rfl) (by kernel_rfl) ?_
        rintro _ _ ⟨_,_,⟨r33,v62,hF,rfl,rfl⟩,rfl,rfl⟩
        refine ⟨.any,.inl R,?_⟩
        refine AtH.all1 9 (by kernel_rfl) ?_
        refine AtH.f [(0,1),(2,3),(3,4)] R R R R R R (eff_does R R R (jd (x:=(.eq v62)) (ja R))) (D':=#[Y,Y,Y,Y,Y,Y,Y,Y,Y,Y]) (by kernel_rfl) (by kernel_rfl) ?_
        rintro _ _ ⟨rfl,rfl⟩
        refine ⟨.any,.inl R,?_⟩
        refine AtH.done (by kernel_rfl) ?_
        refine At.n ?_
        refine At.vl (At.region (At.d R R R R (jb (x:=(.tv (kInt .i64) k18)) (ja R)) ?_))
        refine At.d R R R R (jk (ja R) (ji _ _) vf) ?_
        refine At.d R R R R (jd (x:=(.tv (kInt .i64) (w64 (k18+(1:Int))))) (ja R)) ?_
        refine At.done (At.vl ?_)
        refine At.w [1,0,3,4] R [(1,(.eq (.pointer (some ⟨g1,0,none⟩)))),(3,(.eq v62)),(4,(.tv (kInt .i64) i6)),(5,(.eq (.pointer (some ⟨g7,0,none⟩)))),(6,(.eq v53)),(7,(.tv (kInt .i64) (w64 (k18+(1:Int)))))] ⟨R,R,R,R,R,R,trivial⟩ (At.r ⟨r33,v62,(w64 (k18+(1:Int))),hF,R,R⟩)
       ·replace hF:=W.ite_f hb19 hF
        refine At.exit ?_
        refine At.x (At.x ?_)
        refine At.h ?_
        refine At.n ?_
        refine At.vl ?_
        refine At.w [0,1] R [(1,(.eq (.pointer (some ⟨g1,0,none⟩)))),(3,(.eq v60)),(4,(.tv (kInt .i64) i6))] ⟨R,R,R,trivial⟩ (At.r ⟨x30,v60,hF,R,R⟩)
     ·rintro _ _ ⟨x27,v52,hF,rfl,rfl⟩
      unfold Vf.c2 at hF
      refine At.region (At.d R R R R (jb (x:=(.tv (kInt .i64) i6)) (ja R)) ?_)
      refine At.d R R R R (jk (ja R) (ji _ _) vf) ?_
      refine At.d R R R R (jd (x:=(.tv (kInt .i64) (w64 (i6+(1:Int))))) (ja R)) ?_
      refine At.done (At.vl ?_)
      refine At.w [0,1] R [(1,(.eq (.pointer (some ⟨g1,0,none⟩)))),(3,(.eq v52)),(4,(.tv (kInt .i64) (w64 (i6+(1:Int)))))] ⟨R,R,R,trivial⟩ (At.r ⟨x27,v52,(w64 (i6+(1:Int))),hF,R,R⟩)
    ·replace hF:=W.ite_f hb14 hF
     refine At.exit ?_
     refine At.x (At.x ?_)
     refine At.h ?_
     refine At.vl ?_
     refine At.w [1] R [(3,(.eq v43))] ⟨R,trivial⟩ (At.r ⟨x23,v43,hF,R,R⟩)
  ·rintro _ _ ⟨x12,v22,hF,rfl,rfl⟩
   unfold Vf.c1 at hF
   refine At.seq (At.region (At.d R R R R (jb (x:=(.eq v22)) (ja R)) ?_))
   refine At.d R R R R (jd (x:=(.eq v22)) (ja R)) ?_
   refine At.done (At.vl (At.ret ?_))
   exact At.j rfl (rv_tmp rfl) [0] rfl ⟨x12,_,hF,rfl,rfl⟩
end Go.Gp.Gb
end
