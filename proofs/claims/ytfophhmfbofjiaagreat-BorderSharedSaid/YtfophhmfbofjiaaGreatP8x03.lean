/- Part. -/
import Derived.Test.YtfophhmfbofjiaaGreatP8x02
import Derived.Test.YtfophhmfbofjiaaGreatRows
import Derived.Carry
section
set_option linter.unusedVariables false
set_option linter.unusedSimpArgs false
set_option maxRecDepth 100000
namespace Go.Gp.Gb
open Go.Proofs
def Jq.c4 (x91:(List Violation)):W (List Violation):=W.bind (Vk.F x91) (fun r35=>W.ret r35)
def Jq.l1 (K4:(List Violation)→W (List Violation)) (A1:(List Violation)→(List ((BA×BA)×Bool))→W (List Violation)) (x96:(List Violation)) (x97:(List ((BA×BA)×Bool))):W (List Violation):=W.next x97 (((⟨#[]⟩:BA),(⟨#[]⟩:BA)),false) (fun b16 e16 l7=>W.ite b16 (W.req (b16=true) (W.bind (vt.F ([e16.1.1,e16.1.2]:List BA)) (fun r38=>W.req ((x96.length+([(⟨(⟨#[]⟩:BA),(2:Int),r38⟩:Violation)]:List Violation).length)*48≤140737488355328∧x96.length+([(⟨(⟨#[]⟩:BA),(2:Int),r38⟩:Violation)]:List Violation).length≤140737488355328) (A1 (x96++([(⟨(⟨#[]⟩:BA),(2:Int),r38⟩:Violation)]:List Violation)) l7)))) (K4 x96))
def Jq.c3 (x84:(List ((BA×BA)×Bool))):W (List Violation):=W.ex fun n=>W.iter2 (Jq.l1 (Jq.c4)) n ([]:List Violation) x84
def Jq.c6 (t69:Int) (A3:(List ((BA×BA)×Bool))→Int→W (List Violation)) (x146:(List ((BA×BA)×Bool))):W (List Violation):=A3 x146 (w64 (t69+(1:Int)))
def Jq.l4 (x130:Jv) (x131:Jv) (t69:Int) (K6:(List ((BA×BA)×Bool))→W (List Violation)) (A4:(List ((BA×BA)×Bool))→Int→W (List Violation)) (x149:(List ((BA×BA)×Bool))) (t75:Int):W (List Violation):=W.ite (decide (t75<(x131.owners.length:Int))) (W.req (0≤t75∧t75<(x131.owners.length:Int)) (W.bind (wl.F (rd (⟨#[]⟩:BA) x130.owners t69) (rd (⟨#[]⟩:BA) x131.owners t75) x149) (fun r61=>A4 r61 (w64 (t75+(1:Int)))))) (K6 x149)
def Jq.l3 (A2:(List ((Int×Int)×Int))→(List ((BA×BA)×Bool))→W (List Violation)) (l10:(List ((Int×Int)×Int))) (x130:Jv) (x131:Jv) (A3:(List ((BA×BA)×Bool))→Int→W (List Violation)) (x142:(List ((BA×BA)×Bool))) (t69:Int):W (List Violation):=W.ite (decide (t69<(x130.owners.length:Int))) (W.req (0≤t69∧t69<(x130.owners.length:Int)) (W.ex fun n=>W.iter2 (Jq.l4 x130 x131 t69 (Jq.c6 t69 A3)) n x142 (0:Int))) (A2 l10 x142)
def Jq.c5 (x129:(List ((BA×BA)×Bool))) (A2:(List ((Int×Int)×Int))→(List ((BA×BA)×Bool))→W (List Violation)) (e22:((Int×Int)×Int)) (l10:(List ((Int×Int)×Int))) (x130:Jv) (x131:Jv):W (List Violation):=W.bind (Jm.F ([x131.nodes.1,x131.nodes.2]:List BA) x130.nodes.1) (fun r51=>W.bind (W.ite (!r51) (Jm.F ([x131.nodes.1,x131.nodes.2]:List BA) x130.nodes.2) (W.ret false)) (fun r52=>W.ite ((eq_a50 x130.nodes x131.nodes)||((e22.2==(1:Int))&&(r51||r52))) (A2 l10 x129) (W.ex fun n=>W.iter2 (Jq.l3 A2 l10 x130 x131) n x129 (0:Int))))
def Jq.l2 (r2:(List Jv)) (K3:(List ((BA×BA)×Bool))→W (List Violation)) (A2:(List ((Int×Int)×Int))→(List ((BA×BA)×Bool))→W (List Violation)) (x128:(List ((Int×Int)×Int))) (x129:(List ((BA×BA)×Bool))):W (List Violation):=W.next x128 (((0:Int),(0:Int)),(0:Int)) (fun b22 e22 l10=>W.ite b22 (W.req (b22=true) (W.req (0≤e22.1.1∧e22.1.1<(r2.length:Int)) (W.req (0≤e22.1.2∧e22.1.2<(r2.length:Int)) ((Jq.c5 x129 A2 e22 l10) (rd Vd r2 e22.1.1) (rd Vd r2 e22.1.2))))) (K3 x129))
def Jq.c2 (r1:(Va×Bool)) (r2:(List Jv)) (x47:(List ((BA×BA)×Bool))) (x51:(List Int)):W (List Violation):=W.bind (Jj.F r1.1 r2) (fun r19=>W.bind (vu.F r19 x51 ([]:(List ((Int×Int)×Int)))) (fun r20=>W.ex fun n=>W.iter2 (Jq.l2 r2 (Jq.c3)) n r20 x47))
def Jq.l5 (r2:(List Jv)) (K2:(List Int)→W (List Violation)) (A5:(List Int)→Int→W (List Violation)) (x152:(List Int)) (t78:Int):W (List Violation):=W.ite (decide (t78<(r2.length:Int))) (W.req ((x152.length+([t78]:List Int).length)*8≤140737488355328∧x152.length+([t78]:List Int).length≤140737488355328) (A5 (x152++([t78]:List Int)) (w64 (t78+(1:Int))))) (K2 x152)
def Jq.c1 (r1:(Va×Bool)) (r2:(List Jv)) (x47:(List ((BA×BA)×Bool))):W (List Violation):=W.ex fun n=>W.iter2 (Jq.l5 r2 (Jq.c2 r1 r2 x47)) n ([]:List Int) (0:Int)
def Jq.c7 (t99:Int) (A6:(List (Point×(List BA)))→(List ((BA×BA)×Bool))→Int→W (List Violation)) (x217:(List (Point×(List BA)))) (x218:(List ((BA×BA)×Bool))):W (List Violation):=A6 x217 x218 (w64 (t99+(1:Int)))
def Jq.c8 (t117:Int) (A7:(List (Point×(List BA)))→(List ((BA×BA)×Bool))→Int→W (List Violation)) (x241:(List (Point×(List BA)))) (x242:(List ((BA×BA)×Bool))):W (List Violation):=A7 x241 x242 (w64 (t117+(1:Int)))
def Jq.c9 (r2:(List Jv)) (t99:Int) (x235:(List (Point×(List BA)))) (t117:Int) (K8:(List (Point×(List BA)))→(List ((BA×BA)×Bool))→W (List Violation)) (r98:Point) (x246:(List ((BA×BA)×Bool))):W (List Violation):=W.req (((mget r98 ([]:List BA) x235).length+([(wt ((rd Vd r2 t99).nodes) t117)]:List BA).length)*16≤140737488355328∧(mget r98 ([]:List BA) x235).length+([(wt ((rd Vd r2 t99).nodes) t117)]:List BA).length≤140737488355328) (K8 (mset r98 ((mget r98 ([]:List BA) x235)++([(wt ((rd Vd r2 t99).nodes) t117)]:List BA)) x235) x246)
def Jq.l8 (r2:(List Jv)) (t99:Int) (x235:(List (Point×(List BA)))) (t117:Int) (r98:Point) (K9:(List ((BA×BA)×Bool))→W (List Violation)) (A8:(List ((BA×BA)×Bool))→Int→W (List Violation)) (x249:(List ((BA×BA)×Bool))) (t126:Int):W (List Violation):=W.ite (decide (t126<((mget r98 ([]:List BA) x235).length:Int))) (W.req (0≤t126∧t126<((mget r98 ([]:List BA) x235).length:Int)) (W.req (0≤t126∧t126<((mget r98 ([]:List BA) x235).length:Int)) (W.bind (wl.F (rd (⟨#[]⟩:BA) (mget r98 ([]:List BA) x235) t126) (wt ((rd Vd r2 t99).nodes) t117) x249) (fun r104=>A8 r104 (w64 (t126+(1:Int))))))) (K9 x249)
def Jq.l7 (r1:(Va×Bool)) (r2:(List Jv)) (t99:Int) (K7:(List (Point×(List BA)))→(List ((BA×BA)×Bool))→W (List Violation)) (A7:(List (Point×(List BA)))→(List ((BA×BA)×Bool))→Int→W (List Violation)) (x235:(List (Point×(List BA)))) (x236:(List ((BA×BA)×Bool))) (t117:Int):W (List Violation):=W.ite (decide (t117<(2:Int))) (W.req (0≤t117∧t117<(2:Int)) (W.bind (Vz.F r1.1 (wt ((rd Vd r2 t99).nodes) t117)) (fun r98=>W.bind (Jm.F (mget r98 ([]:List BA) x235) (wt ((rd Vd r2 t99).nodes) t117)) (fun r99=>W.ite (!r99) (W.ex fun n=>W.iter2 (Jq.l8 r2 t99 x235 t117 r98 (Jq.c9 r2 t99 x235 t117 (Jq.c8 t117 A7) r98)) n x236 (0:Int)) ((Jq.c8 t117 A7) x235 x236))))) (K7 x235 x236)
def Jq.l6 (r1:(Va×Bool)) (r2:(List Jv)) (K1:(List ((BA×BA)×Bool))→W (List Violation)) (A6:(List (Point×(List BA)))→(List ((BA×BA)×Bool))→Int→W (List Violation)) (x197:(List (Point×(List BA)))) (x198:(List ((BA×BA)×Bool))) (t99:Int):W (List Violation):=W.ite (decide (t99<(r2.length:Int))) (W.req (0≤t99∧t99<(r2.length:Int)) (W.req (0≤t99∧t99<(r2.length:Int)) (W.ex fun n=>W.iter3 (Jq.l7 r1 r2 t99 (Jq.c7 t99 A6)) n x197 x198 (0:Int)))) (K1 x198)
def Jq.F (m1:Map):W (List Violation):=W.bind (qu.F m1) (fun r1=>W.ite (!r1.2) (W.ret ([]:List Violation)) (W.bind (Jd.F r1.1) (fun r2=>W.ex fun n=>W.iter3 (Jq.l6 r1 r2 (Jq.c1 r1 r2)) n ([]:(List (Point×(List BA)))) ([]:(List ((BA×BA)×Bool))) (0:Int))))
theorem Jq.ok {m1:Map} {Q:(List Violation)→Prop} (hF:Jq.F m1 Q):Con Tryz.prog 16 [.tv kMap m1] [] (fun ta rs'=>∃ (r:(List Violation)) (u0:Value),Q r∧ta=.eq u0∧rs'=[.row u0 43 kViolation r]):=by
 refine Con.i Tryz.func16 Tryz.ntmps16 R R (fun C=>?_)
 unfold Jq.F at hF
 refine At.seq (At.region (At.f R (jy R R R (ja R)) ?_))
 rintro _ _ ⟨g1,rfl,rfl⟩
 refine At.d R R R R (jd (x:=(.eq (.slice none 0 0))) (opd_eq _)) ?_
 refine At.done (At.vl (At.seq (At.region (At.d R R R R (jc (ja R) 0 R (Sub.self kMap) ty_24) ?_))))
 replace hF:=W.vq hF
 refine At.f R (jo R R (jq R en_30 (jf (ja R) jg)) [] R (qu.ok hF)) ?_
 rintro _ _ ⟨_,_,⟨r1,hF,rfl,rfl⟩,rfl,rfl⟩
 refine At.d R R R R (jb (x:=(.tup2 (.tv Jy r1.1) (.tv kBool r1.2))) (ja R)) ?_
 refine At.d R R R R (does_extract20 (ja R)) ?_
 refine At.d R R R R (does_extract21 (ja R)) ?_
 refine At.f R (eff_alloc R R R tz_76) ?_
 rintro _ _ ⟨g2,rfl,rfl⟩
 refine At.f R (jz R R (ja R) 0 R (Sub.self Jy) ty_76 (ja R)) ?_
 rintro _ _ ⟨rfl,rfl⟩
 refine At.d R R R R (jd (x:=(.tv kBool r1.2)) (ja R)) ?_
 refine At.done (At.vl (At.seq (At.seq (At.region (At.d R R R R (jb (x:=(.tv kBool r1.2)) (ja R)) ?_)))))
 refine At.d R R R R (ve (ja R)) ?_
 refine At.done (At.vl ?_)
 refine At.cond (ja R) (fun hb1=>?_) (fun hb1=>?_)
 ·replace hF:=W.ite_t hb1 hF
  refine At.seq (At.region (At.d R R R R (jd (x:=(.eq (.slice none 0 0))) (opd_eq _)) ?_))
  refine At.done (At.vl (At.ret (At.vm ?_)))
  refine At.nilrow 43 kViolation ?_
  exact At.j rfl (rv_tmp rfl) [0] rfl ⟨([]:List Violation),_,hF,rfl,rfl⟩
 ·replace hF:=W.ite_f hb1 hF
  refine At.skip (At.vl (At.seq (At.region (At.d R R R R (jc (ja R) 0 R (Sub.self Jy) ty_76) ?_))))
  replace hF:=W.vq hF
  refine At.f R (jo R R (jq R en_31 (jf (ja R) jg)) [] R (Jd.ok hF)) ?_
  rintro _ _ ⟨_,_,⟨r2,v1,hF,rfl,rfl⟩,rfl,rfl⟩
  refine At.d R R R R (jd (x:=(.eq v1)) (ja R)) ?_
  refine At.done (At.vl (At.seq (At.region (At.f R (eff_makeMap R R R (kPair kStr kStr) kBool) ?_))))
  rintro _ _ ⟨g3,rfl,rfl⟩
  refine At.f R (eff_alloc R R R tz_47) ?_
  rintro _ _ ⟨g4,rfl,rfl⟩
  refine At.f R (eff_store_swap (K':=kRaw) (x':=(.map (some g3))) R R (ja R) 0 R (Swap.whole R) tyr_47 (opd_raw (ja R) R)) ?_
  rintro _ _ ⟨rfl,rfl⟩
  refine At.done (At.vl (At.seq (At.region (At.d R R R R (does_cls (firsts:=[]) (caps:=[.tmp 6]) R (jf (ja R) jg)) ?_))))
  refine At.d R R R R (jd (x:=(.cls 34 0 (tupl [(.eq (.pointer (some ⟨g4,0,none⟩)))]))) (ja R)) ?_
  refine At.done (At.vl (At.seq (At.region (At.f R (eff_makeMapR R R R kPoint 9 kStr) ?_))))
  rintro _ _ ⟨g5,rfl,rfl⟩
  refine At.d R R R R (jd (x:=(.eq (.map (some g5)))) (ja R)) ?_
  refine At.done (At.vl ?_)
  refine At.cut (fun rs L=>∃ (x47:(List ((BA×BA)×Bool))),Jq.c1 r1 r2 x47 Q∧rs=[.box g2 76 Jy r1.1,.row v1 82 Ju r2,.box g4 47 kRaw (.map (some g3)),.map g3 (kPair kStr kStr) kBool x47]∧L=mkL [(3,(.eq (.pointer (some ⟨g2,0,none⟩)))),(5,(.eq v1)),(6,(.eq (.pointer (some ⟨g4,0,none⟩)))),(7,(.cls 34 0 (tupl [(.eq (.pointer (some ⟨g4,0,none⟩)))])))]) ?_ ?_
  ·refine At.seq (At.region (At.d R R R R (jb (x:=(.eq v1)) (ja R)) ?_))
   refine At.d R R R R (does_len_row (ja R) 3 R Tryz.underlying79) ?_
   refine At.d R R R R (jb (x:=(.tv (kInt .i64) (0:Int))) (ji _ _)) ?_
   refine At.done (At.vl (At.block ?_))
   obtain ⟨n8,hF⟩:=hF
   refine At.w [4,3,1,0,2] R [(3,(.eq (.pointer (some ⟨g2,0,none⟩)))),(5,(.eq v1)),(6,(.eq (.pointer (some ⟨g4,0,none⟩)))),(7,(.cls 34 0 (tupl [(.eq (.pointer (some ⟨g4,0,none⟩)))]))),(8,(.eq (.map (some g5)))),(42,(.eq v1)),(43,(.tv (kInt .i64) (r2.length:Int))),(44,(.tv (kInt .i64) (0:Int)))] ⟨R,R,R,R,R,R,R,R,trivial⟩ ?_
   refine At.loop (fun m rs L=>∃ (x197:(List (Point×(List BA)))) (w46:List Value) (x198:(List ((BA×BA)×Bool))) (t99:Int),W.iter3 (Jq.l6 r1 r2 (Jq.c1 r1 r2)) m x197 x198 t99 Q∧rs=[.box g2 76 Jy r1.1,.row v1 82 Ju r2,.box g4 47 kRaw (.map (some g3)),.mrow g5 kPoint 9 kStr w46 x197,.map g3 (kPair kStr kStr) kBool x198]∧L=mkL [(3,(.eq (.pointer (some ⟨g2,0,none⟩)))),(5,(.eq v1)),(6,(.eq (.pointer (some ⟨g4,0,none⟩)))),(7,(.cls 34 0 (tupl [(.eq (.pointer (some ⟨g4,0,none⟩)))]))),(8,(.eq (.map (some g5)))),(42,(.eq v1)),(43,(.tv (kInt .i64) (r2.length:Int))),(44,(.tv (kInt .i64) t99))]) ?_ ?_ (m:=n8) ⟨([]:(List (Point×(List BA)))),[],([]:(List ((BA×BA)×Bool))),(0:Int),hF,R,R⟩
   ·rintro rs L ⟨_,_,_,_,hF,_,_⟩;exact hF
   ·rintro m7 _ _ ⟨x197,w46,x198,t99,hF,rfl,rfl⟩
    replace hF:=W.iter3_s hF
    unfold Jq.l6 at hF
    refine At.seq (At.region (At.d R R R R (jk (ja R) (ja R) vg) ?_))
    refine At.done (At.vl (At.seq ?_))
    refine At.cond (ja R) (fun hb94=>?_) (fun hb94=>?_)
    ·replace hF:=W.ite_t hb94 hF
     refine At.skip (At.vl ?_)
     refine At.cut (fun rs L=>∃ (x217:(List (Point×(List BA)))) (w56:List Value) (x218:(List ((BA×BA)×Bool))),Jq.c7 t99 (W.iter3 (Jq.l6 r1 r2 (Jq.c1 r1 r2)) m7) x217 x218 Q∧rs=[.box g2 76 Jy r1.1,.row v1 82 Ju r2,.box g4 47 kRaw (.map (some g3)),.mrow g5 kPoint 9 kStr w56 x217,.map g3 (kPair kStr kStr) kBool x218]∧L=mkL [(3,(.eq (.pointer (some ⟨g2,0,none⟩)))),(5,(.eq v1)),(6,(.eq (.pointer (some ⟨g4,0,none⟩)))),(7,(.cls 34 0 (tupl [(.eq (.pointer (some ⟨g4,0,none⟩)))]))),(8,(.eq (.map (some g5)))),(42,(.eq v1)),(43,(.tv (kInt .i64) (r2.length:Int))),(44,(.tv (kInt .i64) t99))]) ?_ ?_
     ·refine At.block (At.seq (At.region ?_))
      obtain ⟨hq140,hF⟩:=hF
      refine At.d R R R R (does_idx_row (ja R) 1 R (ja R) Tryz.underlying79 ty_82 hq140) ?_
      obtain ⟨hq141,hF⟩:=hF
      refine At.d R R R R (Jh (ja R) 1 R t99 0 R Vd hq141 (Sub.self Ju) ty_82) ?_
      refine At.f R (eff_alloc R R R tz_82) ?_
      rintro _ _ ⟨g82,rfl,rfl⟩
      refine At.f R (jz R R (ja R) 0 R (Sub.self Ju) ty_82 (ja R)) ?_
      rintro _ _ ⟨rfl,rfl⟩
      refine At.done (At.vl (At.seq (At.region (At.d R R R R (je (ja R) ze) ?_))))
      refine At.d R R R R (jc (ja R) 0 R wb ty_50) ?_
      refine At.d R R R R (jb (x:=(.tv (kInt .i64) (0:Int))) (ji _ _)) ?_
      refine At.done (At.vl (At.block ?_))
      obtain ⟨n7,hF⟩:=hF
      refine At.w [1,2,3,4,5] R [(3,(.eq (.pointer (some ⟨g2,0,none⟩)))),(5,(.eq v1)),(6,(.eq (.pointer (some ⟨g4,0,none⟩)))),(7,(.cls 34 0 (tupl [(.eq (.pointer (some ⟨g4,0,none⟩)))]))),(8,(.eq (.map (some g5)))),(42,(.eq v1)),(43,(.tv (kInt .i64) (r2.length:Int))),(44,(.tv (kInt .i64) t99)),(49,(.tv (kPair kStr kStr) ((rd Vd r2 t99).nodes))),(50,(.tv (kInt .i64) (0:Int)))] ⟨R,R,R,R,R,R,R,R,R,R,trivial⟩ ?_
      refine At.loop (fun m rs L=>∃ (x235:(List (Point×(List BA)))) (w65:List Value) (x236:(List ((BA×BA)×Bool))) (t117:Int),W.iter3 (Jq.l7 r1 r2 t99 (Jq.c7 t99 (W.iter3 (Jq.l6 r1 r2 (Jq.c1 r1 r2)) m7))) m x235 x236 t117 Q∧rs=[.box g2 76 Jy r1.1,.row v1 82 Ju r2,.box g4 47 kRaw (.map (some g3)),.mrow g5 kPoint 9 kStr w65 x235,.map g3 (kPair kStr kStr) kBool x236]∧L=mkL [(3,(.eq (.pointer (some ⟨g2,0,none⟩)))),(5,(.eq v1)),(6,(.eq (.pointer (some ⟨g4,0,none⟩)))),(7,(.cls 34 0 (tupl [(.eq (.pointer (some ⟨g4,0,none⟩)))]))),(8,(.eq (.map (some g5)))),(42,(.eq v1)),(43,(.tv (kInt .i64) (r2.length:Int))),(44,(.tv (kInt .i64) t99)),(49,(.tv (kPair kStr kStr) ((rd Vd r2 t99).nodes))),(50,(.tv (kInt .i64) t117))]) ?_ ?_ (m:=n7) ⟨x197,w46,x198,(0:Int),hF,R,R⟩
      ·rintro rs L ⟨_,_,_,_,hF,_,_⟩;exact hF
      ·rintro m8 _ _ ⟨x235,w65,x236,t117,hF,rfl,rfl⟩
       replace hF:=W.iter3_s hF
       unfold Jq.l7 at hF
       refine At.seq (At.region (At.d R R R R (jk (ja R) (ji _ _) vg) ?_))
       refine At.done (At.vl (At.seq ?_))
       refine At.cond (ja R) (fun hb111=>?_) (fun hb111=>?_)
       ·replace hF:=W.ite_t hb111 hF
        refine At.skip (At.vl ?_)
        refine At.cut (fun rs L=>∃ (x241:(List (Point×(List BA)))) (w68:List Value) (x242:(List ((BA×BA)×Bool))),Jq.c8 t117 (W.iter3 (Jq.l7 r1 r2 t99 (Jq.c7 t99 (W.iter3 (Jq.l6 r1 r2 (Jq.c1 r1 r2)) m7))) m8) x241 x242 Q∧rs=[.box g2 76 Jy r1.1,.row v1 82 Ju r2,.box g4 47 kRaw (.map (some g3)),.mrow g5 kPoint 9 kStr w68 x241,.map g3 (kPair kStr kStr) kBool x242]∧L=mkL [(3,(.eq (.pointer (some ⟨g2,0,none⟩)))),(5,(.eq v1)),(6,(.eq (.pointer (some ⟨g4,0,none⟩)))),(7,(.cls 34 0 (tupl [(.eq (.pointer (some ⟨g4,0,none⟩)))]))),(8,(.eq (.map (some g5)))),(42,(.eq v1)),(43,(.tv (kInt .i64) (r2.length:Int))),(44,(.tv (kInt .i64) t99)),(49,(.tv (kPair kStr kStr) ((rd Vd r2 t99).nodes))),(50,(.tv (kInt .i64) t117))]) ?_ ?_
        ·refine At.block (At.seq (At.region ?_))
         obtain ⟨hq160,hF⟩:=hF
         refine At.d R R R R (does_index_arr (n:=2) (sz:=1) (K:=(kPair kStr kStr)) R (ja R) (ja R) Tryz.underlying50 ty_9 R hq160 (subv_50 hq160)) ?_
         refine At.d R R R R (jd (x:=(.tv kStr (wt ((rd Vd r2 t99).nodes) t117))) (ja R)) ?_
         refine At.done (At.vl (At.seq (At.region (At.d R R R R (jc (ja R) 0 R (Sub.self Jy) ty_76) ?_))))
         refine At.d R R R R (jb (x:=(.tv kStr (wt ((rd Vd r2 t99).nodes) t117))) (ja R)) ?_
         replace hF:=W.vq hF
         refine At.f R (jn R R jp (jq R en_35 (jf (ja R) (jf (ja R) jg))) (Vz.ok hF) (by rintro _ _ ⟨r,_,rfl,_⟩;exact (flat_tv zm))) ?_
         rintro _ _ ⟨_,_,⟨r98,hF,rfl,rfl⟩,rfl,rfl⟩
         refine At.f R (eff_alloc R R R tz_37) ?_
         rintro _ _ ⟨g86,rfl,rfl⟩
         refine At.f R (jz R R (ja R) 0 R (Sub.self kPoint) ty_37 (ja R)) ?_
         rintro _ _ ⟨rfl,rfl⟩
         refine At.done (At.vl (At.seq (At.region (At.d R R R R (jb (x:=(.eq (.map (some g5)))) (ja R)) ?_))))
         refine At.d R R R R (jc (ja R) 0 R (Sub.self kPoint) ty_37) ?_
         refine At.f R (eff_lookR R R R (ja R) 4 R mtr_86 (ja R)) ?_
         rintro _ _ ⟨v107,j40,s40,rfl,rfl⟩
         refine At.d R R R R (jb (x:=(.tv kStr (wt ((rd Vd r2 t99).nodes) t117))) (ja R)) ?_
         replace hF:=W.vq hF
         refine At.f R (jn R R (lends_row 0 58 R R jp) (jq R en_36 (jf (ja R) (jf (ja R) jg))) (Jm.ok hF) (by rintro _ _ ⟨r,_,rfl,_⟩;exact vp)) ?_
         rintro _ _ ⟨_,_,⟨r99,hF,rfl,rfl⟩,rfl,rfl⟩
         refine At.d R R R R (ve (ja R)) ?_
         refine At.done (At.vl ?_)
         refine At.cond (ja R) (fun hb115=>?_) (fun hb115=>?_)
         ·replace hF:=W.ite_t hb115 hF
          refine At.cut (fun rs L=>∃ (x246:(List ((BA×BA)×Bool))),Jq.c9 r2 t99 x235 t117 (Jq.c8 t117 (W.iter3 (Jq.l7 r1 r2 t99 (Jq.c7 t99 (W.iter3 (Jq.l6 r1 r2 (Jq.c1 r1 r2)) m7))) m8)) r98 x246 Q∧rs=[.box g2 76 Jy r1.1,.row v1 82 Ju r2,.box g4 47 kRaw (.map (some g3)),.mrow g5 kPoint 9 kStr w65 x235,.box g86 37 kPoint r98,.map g3 (kPair kStr kStr) kBool x246]∧L=mkL [(3,(.eq (.pointer (some ⟨g2,0,none⟩)))),(5,(.eq v1)),(6,(.eq (.pointer (some ⟨g4,0,none⟩)))),(7,(.cls 34 0 (tupl [(.eq (.pointer (some ⟨g4,0,none⟩)))]))),(8,(.eq (.map (some g5)))),(12,(.tv kStr (wt ((rd Vd r2 t99).nodes) t117))),(13,(.eq (.pointer (some ⟨g86,0,none⟩)))),(42,(.eq v1)),(43,(.tv (kInt .i64) (r2.length:Int))),(44,(.tv (kInt .i64) t99)),(49,(.tv (kPair kStr kStr) ((rd Vd r2 t99).nodes))),(50,(.tv (kInt .i64) t117))]) ?_ ?_
          ·refine At.seq (At.region (At.d R R R R (jb (x:=(.eq (.map (some g5)))) (ja R)) ?_))
           refine At.d R R R R (jc (ja R) 1 R (Sub.self kPoint) ty_37) ?_
           refine At.mclose 5 0 R R R ?_
           refine At.f R (eff_lookR R R R (ja R) 5 R mtr_86 (ja R)) ?_
           rintro _ _ ⟨v112,j43,s43,rfl,rfl⟩
           refine At.d R R R R (does_len_row (ja R) 0 R Tryz.underlying41) ?_
           refine At.d R R R R (jb (x:=(.tv (kInt .i64) (0:Int))) (ji _ _)) ?_
           refine At.done (At.vl (At.block ?_))
           obtain ⟨n6,hF⟩:=hF
           refine At.w [3,4,5,6,2,0,7] R [(3,(.eq (.pointer (some ⟨g2,0,none⟩)))),(5,(.eq v1)),(6,(.eq (.pointer (some ⟨g4,0,none⟩)))),(7,(.cls 34 0 (tupl [(.eq (.pointer (some ⟨g4,0,none⟩)))]))),(8,(.eq (.map (some g5)))),(12,(.tv kStr (wt ((rd Vd r2 t99).nodes) t117))),(13,(.eq (.pointer (some ⟨g86,0,none⟩)))),(42,(.eq v1)),(43,(.tv (kInt .i64) (r2.length:Int))),(44,(.tv (kInt .i64) t99)),(49,(.tv (kPair kStr kStr) ((rd Vd r2 t99).nodes))),(50,(.tv (kInt .i64) t117)),(64,(.eq v112)),(65,(.tv (kInt .i64) ((mget r98 ([]:List BA) x235).length:Int))),(66,(.tv (kInt .i64) (0:Int)))] ⟨R,R,R,R,R,R,R,R,R,R,R,R,R,R,R,trivial⟩ ?_
           refine At.loop (fun m rs L=>∃ (x249:(List ((BA×BA)×Bool))) (t126:Int),W.iter2 (Jq.l8 r2 t99 x235 t117 r98 (Jq.c9 r2 t99 x235 t117 (Jq.c8 t117 (W.iter3 (Jq.l7 r1 r2 t99 (Jq.c7 t99 (W.iter3 (Jq.l6 r1 r2 (Jq.c1 r1 r2)) m7))) m8)) r98)) m x249 t126 Q∧rs=[.box g2 76 Jy r1.1,.row v1 82 Ju r2,.box g4 47 kRaw (.map (some g3)),.mhole g5 kPoint 9 kStr w65 x235 r98 j43 v112 s43,.box g86 37 kPoint r98,.row v112 9 kStr (mget r98 ([]:List BA) x235),.map g3 (kPair kStr kStr) kBool x249]∧L=mkL [(3,(.eq (.pointer (some ⟨g2,0,none⟩)))),(5,(.eq v1)),(6,(.eq (.pointer (some ⟨g4,0,none⟩)))),(7,(.cls 34 0 (tupl [(.eq (.pointer (some ⟨g4,0,none⟩)))]))),(8,(.eq (.map (some g5)))),(12,(.tv kStr (wt ((rd Vd r2 t99).nodes) t117))),(13,(.eq (.pointer (some ⟨g86,0,none⟩)))),(42,(.eq v1)),(43,(.tv (kInt .i64) (r2.length:Int))),(44,(.tv (kInt .i64) t99)),(49,(.tv (kPair kStr kStr) ((rd Vd r2 t99).nodes))),(50,(.tv (kInt .i64) t117)),(64,(.eq v112)),(65,(.tv (kInt .i64) ((mget r98 ([]:List BA) x235).length:Int))),(66,(.tv (kInt .i64) t126))]) ?_ ?_ (m:=n6) ⟨x236,(0:Int),hF,R,R⟩
           ·rintro rs L ⟨_,_,hF,_,_⟩;exact hF
           ·rintro m9 _ _ ⟨x249,t126,hF,rfl,rfl⟩
            replace hF:=W.iter2_s hF
            unfold Jq.l8 at hF
            refine At.seq (At.region (At.d R R R R (jk (ja R) (ja R) vg) ?_))
            refine At.done (At.vl (At.seq ?_))
            refine At.cond (ja R) (fun hb120=>?_) (fun hb120=>?_)
            ·replace hF:=W.ite_t hb120 hF
             refine At.skip (At.vl (At.seq (At.block (At.seq (At.region ?_)))))
             obtain ⟨hq170,hF⟩:=hF
             refine At.d R R R R (does_idx_row (ja R) 5 R (ja R) Tryz.underlying41 ty_9 hq170) ?_
             obtain ⟨hq171,hF⟩:=hF
             refine At.d R R R R (Jh (ja R) 5 R t126 0 R (⟨#[]⟩:BA) hq171 (Sub.self kStr) ty_9) ?_
             refine At.d R R R R (jd (x:=(.tv kStr (rd (⟨#[]⟩:BA) (mget r98 ([]:List BA) x235) t126))) (ja R)) ?_
             refine At.done (At.vl (At.region (At.d R R R R (jb (x:=(.cls 34 0 (tupl [(.eq (.pointer (some ⟨g4,0,none⟩)))]))) (ja R)) ?_)))
             refine At.d R R R R (jb (x:=(.tv kStr (rd (⟨#[]⟩:BA) (mget r98 ([]:List BA) x235) t126))) (ja R)) ?_
             refine At.d R R R R (jb (x:=(.tv kStr (wt ((rd Vd r2 t99).nodes) t117))) (ja R)) ?_
             replace hF:=W.vq hF
             refine At.f R (jo R R (ent_val0 R (ja R) en_34 (jf (ja R) (jf (ja R) jg))) [2,6] R (wl.ok hF)) ?_
             rintro _ _ ⟨_,_,⟨r104,hF,rfl,rfl⟩,rfl,rfl⟩
             refine At.done ?_
             refine At.n ?_
             refine At.vl (At.region (At.d R R R R (jk (ja R) (ji _ _) vf) ?_))
             refine At.d R R R R (jb (x:=(.tv (kInt .i64) (w64 (t126+(1:Int))))) (ja R)) ?_
             refine At.done (At.vl ?_)
             refine At.w [2,3,0,5,6,7,1] R [(3,(.eq (.pointer (some ⟨g2,0,none⟩)))),(5,(.eq v1)),(6,(.eq (.pointer (some ⟨g4,0,none⟩)))),(7,(.cls 34 0 (tupl [(.eq (.pointer (some ⟨g4,0,none⟩)))]))),(8,(.eq (.map (some g5)))),(12,(.tv kStr (wt ((rd Vd r2 t99).nodes) t117))),(13,(.eq (.pointer (some ⟨g86,0,none⟩)))),(42,(.eq v1)),(43,(.tv (kInt .i64) (r2.length:Int))),(44,(.tv (kInt .i64) t99)),(49,(.tv (kPair kStr kStr) ((rd Vd r2 t99).nodes))),(50,(.tv (kInt .i64) t117)),(64,(.eq v112)),(65,(.tv (kInt .i64) ((mget r98 ([]:List BA) x235).length:Int))),(66,(.tv (kInt .i64) (w64 (t126+(1:Int)))))] ⟨R,R,R,R,R,R,R,R,R,R,R,R,R,R,R,trivial⟩ (At.r ⟨r104,(w64 (t126+(1:Int))),hF,R,R⟩)
            ·replace hF:=W.ite_f hb120 hF
             refine At.exit ?_
             refine At.x (At.x ?_)
             refine At.h ?_
             refine At.vl ?_
             refine At.mclose 3 5 R R R ?_
             refine At.w [0,1,2,3,4,6] R [(3,(.eq (.pointer (some ⟨g2,0,none⟩)))),(5,(.eq v1)),(6,(.eq (.pointer (some ⟨g4,0,none⟩)))),(7,(.cls 34 0 (tupl [(.eq (.pointer (some ⟨g4,0,none⟩)))]))),(8,(.eq (.map (some g5)))),(12,(.tv kStr (wt ((rd Vd r2 t99).nodes) t117))),(13,(.eq (.pointer (some ⟨g86,0,none⟩)))),(42,(.eq v1)),(43,(.tv (kInt .i64) (r2.length:Int))),(44,(.tv (kInt .i64) t99)),(49,(.tv (kPair kStr kStr) ((rd Vd r2 t99).nodes))),(50,(.tv (kInt .i64) t117))] ⟨R,R,R,R,R,R,R,R,R,R,R,R,trivial⟩ (At.r ⟨x249,hF,R,R⟩)
          ·rintro _ _ ⟨x246,hF,rfl,rfl⟩
           unfold Jq.c9 at hF
           refine At.region (At.d R R R R (jb (x:=(.eq (.map (some g5)))) (ja R)) ?_)
           refine At.d R R R R (jc (ja R) 4 R (Sub.self kPoint) ty_37) ?_
           refine At.d R R R R (jb (x:=(.tv kStr (wt ((rd Vd r2 t99).nodes) t117))) (ja R)) ?_
           refine At.f R (vc R R R (os:=[.tmp 78]) R sl_41 (xs:=([(wt ((rd Vd r2 t99).nodes) t117)]:List BA)) (jf (ja R) jg) R R) ?_
           rintro _ _ ⟨v109,rfl,rfl⟩
           refine At.f R (eff_mapEntry R R R (ja R) 4 R mtr_86 (ja R)) ?_
           rintro _ _ ⟨v110,w69,j42,s42,rfl,rfl⟩
           refine At.d R R R R (does_extract20 (ja R)) ?_
           obtain ⟨hq165,hF⟩:=hF
           refine At.f R (eff_append_row R R R 0 1 R R (ja R) (ja R) sl_41 hq165) ?_
           rintro _ _ ⟨v111,rfl,rfl⟩
           refine At.d R R R R (does_extract21 (ja R)) ?_
           refine At.f R (eff_entryStore R R (ja R) 5 0 R R (ja R) R (ja R)) ?_
           rintro _ _ ⟨w70,rfl,rfl⟩
           refine At.done ?_
           refine At.n ?_
           refine At.vl ?_
           refine At.w [2,3,4,5,7] R [(3,(.eq (.pointer (some ⟨g2,0,none⟩)))),(5,(.eq v1)),(6,(.eq (.pointer (some ⟨g4,0,none⟩)))),(7,(.cls 34 0 (tupl [(.eq (.pointer (some ⟨g4,0,none⟩)))]))),(8,(.eq (.map (some g5)))),(42,(.eq v1)),(43,(.tv (kInt .i64) (r2.length:Int))),(44,(.tv (kInt .i64) t99)),(49,(.tv (kPair kStr kStr) ((rd Vd r2 t99).nodes))),(50,(.tv (kInt .i64) t117))] ⟨R,R,R,R,R,R,R,R,R,R,trivial⟩ (At.r ⟨(mset r98 ((mget r98 ([]:List BA) x235)++([(wt ((rd Vd r2 t99).nodes) t117)]:List BA)) x235),w70,x246,hF,R,R⟩)
         ·replace hF:=W.ite_f hb115 hF
          refine At.skip ?_
          refine At.n ?_
          refine At.vl ?_
          refine At.mclose 5 0 R R R ?_
          refine At.w [2,3,4,5,6] R [(3,(.eq (.pointer (some ⟨g2,0,none⟩)))),(5,(.eq v1)),(6,(.eq (.pointer (some ⟨g4,0,none⟩)))),(7,(.cls 34 0 (tupl [(.eq (.pointer (some ⟨g4,0,none⟩)))]))),(8,(.eq (.map (some g5)))),(42,(.eq v1)),(43,(.tv (kInt .i64) (r2.length:Int))),(44,(.tv (kInt .i64) t99)),(49,(.tv (kPair kStr kStr) ((rd Vd r2 t99).nodes))),(50,(.tv (kInt .i64) t117))] ⟨R,R,R,R,R,R,R,R,R,R,trivial⟩ (At.r ⟨x235,w65,x236,hF,R,R⟩)
        ·rintro _ _ ⟨x241,w68,x242,hF,rfl,rfl⟩
         unfold Jq.c8 at hF
         refine At.region (At.d R R R R (jk (ja R) (ji _ _) vf) ?_)
         refine At.d R R R R (jb (x:=(.tv (kInt .i64) (w64 (t117+(1:Int))))) (ja R)) ?_
         refine At.done (At.vl ?_)
         refine At.w [0,1,2,3,4] R [(3,(.eq (.pointer (some ⟨g2,0,none⟩)))),(5,(.eq v1)),(6,(.eq (.pointer (some ⟨g4,0,none⟩)))),(7,(.cls 34 0 (tupl [(.eq (.pointer (some ⟨g4,0,none⟩)))]))),(8,(.eq (.map (some g5)))),(42,(.eq v1)),(43,(.tv (kInt .i64) (r2.length:Int))),(44,(.tv (kInt .i64) t99)),(49,(.tv (kPair kStr kStr) ((rd Vd r2 t99).nodes))),(50,(.tv (kInt .i64) (w64 (t117+(1:Int)))))] ⟨R,R,R,R,R,R,R,R,R,R,trivial⟩ (At.r ⟨x241,w68,x242,(w64 (t117+(1:Int))),hF,R,R⟩)
       ·replace hF:=W.ite_f hb111 hF
        refine At.exit ?_
        refine At.x (At.x ?_)
        refine At.h ?_
        refine At.n ?_
        refine At.vl ?_
        refine At.w [0,1,2,3,4] R [(3,(.eq (.pointer (some ⟨g2,0,none⟩)))),(5,(.eq v1)),(6,(.eq (.pointer (some ⟨g4,0,none⟩)))),(7,(.cls 34 0 (tupl [(.eq (.pointer (some ⟨g4,0,none⟩)))]))),(8,(.eq (.map (some g5)))),(42,(.eq v1)),(43,(.tv (kInt .i64) (r2.length:Int))),(44,(.tv (kInt .i64) t99))] ⟨R,R,R,R,R,R,R,R,trivial⟩ (At.r ⟨x235,w65,x236,hF,R,R⟩)
     ·rintro _ _ ⟨x217,w56,x218,hF,rfl,rfl⟩
      unfold Jq.c7 at hF
      refine At.region (At.d R R R R (jk (ja R) (ji _ _) vf) ?_)
      refine At.d R R R R (jb (x:=(.tv (kInt .i64) (w64 (t99+(1:Int))))) (ja R)) ?_
      refine At.done (At.vl ?_)
      refine At.w [0,1,2,3,4] R [(3,(.eq (.pointer (some ⟨g2,0,none⟩)))),(5,(.eq v1)),(6,(.eq (.pointer (some ⟨g4,0,none⟩)))),(7,(.cls 34 0 (tupl [(.eq (.pointer (some ⟨g4,0,none⟩)))]))),(8,(.eq (.map (some g5)))),(42,(.eq v1)),(43,(.tv (kInt .i64) (r2.length:Int))),(44,(.tv (kInt .i64) (w64 (t99+(1:Int)))))] ⟨R,R,R,R,R,R,R,R,trivial⟩ (At.r ⟨x217,w56,x218,(w64 (t99+(1:Int))),hF,R,R⟩)
    ·replace hF:=W.ite_f hb94 hF
     refine At.exit ?_
     refine At.x (At.x ?_)
     refine At.h ?_
     refine At.vl ?_
     refine At.w [0,1,2,4] R [(3,(.eq (.pointer (some ⟨g2,0,none⟩)))),(5,(.eq v1)),(6,(.eq (.pointer (some ⟨g4,0,none⟩)))),(7,(.cls 34 0 (tupl [(.eq (.pointer (some ⟨g4,0,none⟩)))])))] ⟨R,R,R,R,trivial⟩ (At.r ⟨x198,hF,R,R⟩)
  ·rintro _ _ ⟨x47,hF,rfl,rfl⟩
   unfold Jq.c1 at hF
   refine At.seq (At.region (At.d R R R R (jd (x:=(.eq (.slice none 0 0))) (opd_eq _)) ?_))
   refine At.done (At.vl ?_)
   refine At.cut (fun rs L=>∃ (x51:(List Int)) (v29:Value),Jq.c2 r1 r2 x47 x51 Q∧rs=[.box g2 76 Jy r1.1,.row v1 82 Ju r2,.box g4 47 kRaw (.map (some g3)),.row v29 3 (kInt .i64) x51,.map g3 (kPair kStr kStr) kBool x47]∧L=mkL [(3,(.eq (.pointer (some ⟨g2,0,none⟩)))),(5,(.eq v1)),(6,(.eq (.pointer (some ⟨g4,0,none⟩)))),(7,(.cls 34 0 (tupl [(.eq (.pointer (some ⟨g4,0,none⟩)))]))),(16,(.eq v29))]) ?_ ?_
   ·refine At.seq (At.region (At.d R R R R (jb (x:=(.eq v1)) (ja R)) ?_))
    refine At.d R R R R (does_len_row (ja R) 1 R Tryz.underlying79) ?_
    refine At.d R R R R (jb (x:=(.tv (kInt .i64) (0:Int))) (ji _ _)) ?_
    refine At.done (At.vl (At.block ?_))
    refine At.nilrow 3 (kInt .i64) ?_
    obtain ⟨n5,hF⟩:=hF
    refine At.w [1,2,3,0,4] R [(3,(.eq (.pointer (some ⟨g2,0,none⟩)))),(5,(.eq v1)),(6,(.eq (.pointer (some ⟨g4,0,none⟩)))),(7,(.cls 34 0 (tupl [(.eq (.pointer (some ⟨g4,0,none⟩)))]))),(16,(.eq (.slice none 0 0))),(86,(.tv (kInt .i64) (r2.length:Int))),(87,(.tv (kInt .i64) (0:Int)))] ⟨R,R,R,R,R,R,R,trivial⟩ ?_
    refine At.loop (fun m rs L=>∃ (x152:(List Int)) (v59:Value) (t78:Int),W.iter2 (Jq.l5 r2 (Jq.c2 r1 r2 x47)) m x152 t78 Q∧rs=[.box g2 76 Jy r1.1,.row v1 82 Ju r2,.box g4 47 kRaw (.map (some g3)),.row v59 3 (kInt .i64) x152,.map g3 (kPair kStr kStr) kBool x47]∧L=mkL [(3,(.eq (.pointer (some ⟨g2,0,none⟩)))),(5,(.eq v1)),(6,(.eq (.pointer (some ⟨g4,0,none⟩)))),(7,(.cls 34 0 (tupl [(.eq (.pointer (some ⟨g4,0,none⟩)))]))),(16,(.eq v59)),(86,(.tv (kInt .i64) (r2.length:Int))),(87,(.tv (kInt .i64) t78))]) ?_ ?_ (m:=n5) ⟨([]:List Int),(.slice none 0 0),(0:Int),hF,R,R⟩
    ·rintro rs L ⟨_,_,_,hF,_,_⟩;exact hF
    ·rintro m6 _ _ ⟨x152,v59,t78,hF,rfl,rfl⟩
     replace hF:=W.iter2_s hF
     unfold Jq.l5 at hF
     refine At.seq (At.region (At.d R R R R (jk (ja R) (ja R) vg) ?_))
     refine At.done (At.vl (At.seq ?_))
     refine At.cond (ja R) (fun hb75=>?_) (fun hb75=>?_)
     ·replace hF:=W.ite_t hb75 hF
      refine At.skip (At.vl (At.seq (At.block (At.seq (At.region (At.d R R R R (jb (x:=(.tv (kInt .i64) t78)) (ja R)) ?_))))))
      refine At.d R R R R (jd (x:=(.tv (kInt .i64) t78)) (ja R)) ?_
      refine At.done (At.vl (At.region (At.d R R R R (jb (x:=(.eq v59)) (ja R)) ?_)))
      refine At.d R R R R (jb (x:=(.tv (kInt .i64) t78)) (ja R)) ?_
      refine At.f R (vc R R R (os:=[.tmp 91]) R sl_89 (xs:=([t78]:List Int)) (jf (ja R) jg) R R) ?_
      rintro _ _ ⟨v60,rfl,rfl⟩
      obtain ⟨hq97,hF⟩:=hF
      refine At.f R (eff_append_row R R R 4 0 R R (ja R) (ja R) sl_89 hq97) ?_
      rintro _ _ ⟨v61,rfl,rfl⟩
      refine At.d R R R R (jd (x:=(.eq v61)) (ja R)) ?_
      refine At.done ?_
      refine At.n ?_
      refine At.vl (At.region (At.d R R R R (jk (ja R) (ji _ _) vf) ?_))
      refine At.d R R R R (jb (x:=(.tv (kInt .i64) (w64 (t78+(1:Int))))) (ja R)) ?_
      refine At.done (At.vl ?_)
      refine At.w [1,2,3,4,5] R [(3,(.eq (.pointer (some ⟨g2,0,none⟩)))),(5,(.eq v1)),(6,(.eq (.pointer (some ⟨g4,0,none⟩)))),(7,(.cls 34 0 (tupl [(.eq (.pointer (some ⟨g4,0,none⟩)))]))),(16,(.eq v61)),(86,(.tv (kInt .i64) (r2.length:Int))),(87,(.tv (kInt .i64) (w64 (t78+(1:Int)))))] ⟨R,R,R,R,R,R,R,trivial⟩ (At.r ⟨(x152++([t78]:List Int)),v61,(w64 (t78+(1:Int))),hF,R,R⟩)
     ·replace hF:=W.ite_f hb75 hF
      refine At.exit ?_
      refine At.x (At.x ?_)
      refine At.h ?_
      refine At.vl ?_
      refine At.w [0,1,2,3,4] R [(3,(.eq (.pointer (some ⟨g2,0,none⟩)))),(5,(.eq v1)),(6,(.eq (.pointer (some ⟨g4,0,none⟩)))),(7,(.cls 34 0 (tupl [(.eq (.pointer (some ⟨g4,0,none⟩)))]))),(16,(.eq v59))] ⟨R,R,R,R,R,trivial⟩ (At.r ⟨x152,v59,hF,R,R⟩)
   ·rintro _ _ ⟨x51,v29,hF,rfl,rfl⟩
    unfold Jq.c2 at hF
    refine At.seq (At.region (At.f R (eff_makeMap R R R (kPair (kInt .i64) (kInt .i64)) (kInt .i64)) ?_))
    rintro _ _ ⟨g12,rfl,rfl⟩
    refine At.d R R R R (jd (x:=(.eq (.map (some g12)))) (ja R)) ?_
    refine At.done (At.vl (At.seq (At.region (At.d R R R R (jc (ja R) 1 R (Sub.self Jy) ty_76) ?_))))
    refine At.d R R R R (jb (x:=(.eq v1)) (ja R)) ?_
    refine At.freeze2 2 5 97 R R R ?_
    replace hF:=W.vq hF
    refine At.f R (jo R R (jq R en_32 (jf (ja R) (jf (ja R) jg))) [] R (Jj.ok hF)) ?_
    rintro _ _ ⟨_,_,⟨r19,v30,hF,rfl,rfl⟩,rfl,rfl⟩
    refine At.d R R R R (jb (x:=(.eq v29)) (ja R)) ?_
    refine At.d R R R R (jb (x:=(.eq (.map (some g12)))) (ja R)) ?_
    refine At.freeze 0 98 R R ?_
    refine At.freeze2 5 16 99 R R R ?_
    replace hF:=W.vq hF
    refine At.f R (jo R R (jq R en_37 (jf (ja R) (jf (ja R) (jf (ja R) jg)))) [1] R (vu.ok hF)) ?_
    rintro _ _ ⟨_,_,⟨r20,hF,rfl,rfl⟩,rfl,rfl⟩
    refine At.done (At.vl ?_)
    refine At.cut (fun rs L=>∃ (x84:(List ((BA×BA)×Bool))),Jq.c3 x84 Q∧rs=[.box g4 47 kRaw (.map (some g3)),.map g3 (kPair kStr kStr) kBool x84]∧L=mkL [(6,(.eq (.pointer (some ⟨g4,0,none⟩))))]) ?_ ?_
    ·refine At.seq (At.region (At.d R R R R (jb (x:=(.eq (.map (some g12)))) (ja R)) ?_))
     refine At.mapfreeze 0 [18,95,100,102] R ⟨R,R,R,R,trivial⟩ ?_
     refine At.f R (eff_range R R R (ja R) Tryz.underlying90 (((0:Int),(0:Int)),(0:Int))) ?_
     rintro _ _ ⟨g39,rfl,rfl⟩
     refine At.done (At.vl (At.block ?_))
     obtain ⟨n4,hF⟩:=hF
     refine At.w [6,0,8] R [(5,(.tv (kSlice Ju) r2)),(6,(.eq (.pointer (some ⟨g4,0,none⟩)))),(7,(.cls 34 0 (tupl [(.eq (.pointer (some ⟨g4,0,none⟩)))]))),(103,(.eq (.pointer (some ⟨g39,0,none⟩))))] ⟨R,R,R,R,trivial⟩ ?_
     refine At.loop (fun m rs L=>∃ (x128:(List ((Int×Int)×Int))) (b21:Bool) (e21:((Int×Int)×Int)) (x129:(List ((BA×BA)×Bool))),W.iter2 (Jq.l2 r2 (Jq.c3)) m x128 x129 Q∧rs=[.box g4 47 kRaw (.map (some g3)),.iter g39 (kPair (kInt .i64) (kInt .i64)) (kInt .i64) x128 b21 e21,.map g3 (kPair kStr kStr) kBool x129]∧L=mkL [(5,(.tv (kSlice Ju) r2)),(6,(.eq (.pointer (some ⟨g4,0,none⟩)))),(7,(.cls 34 0 (tupl [(.eq (.pointer (some ⟨g4,0,none⟩)))]))),(103,(.eq (.pointer (some ⟨g39,0,none⟩))))]) ?_ ?_ (m:=n4) ⟨r20,false,(((0:Int),(0:Int)),(0:Int)),x47,hF,R,R⟩
     ·rintro rs L ⟨_,_,_,_,hF,_,_⟩;exact hF
     ·rintro m3 _ _ ⟨x128,b21,e21,x129,hF,rfl,rfl⟩
      replace hF:=W.iter2_s hF
      unfold Jq.l2 at hF
      refine At.seq (At.region (At.f R (eff_next R R R (ja R) 1 R hF) ?_))
      rintro _ _ ⟨b22,e22,l10,hF,rfl,rfl⟩
      refine At.d R R R R (does_extract_tcons (ja R)) ?_
      refine At.done (At.vl (At.seq ?_))
      refine At.cond (ja R) (fun hb59=>?_) (fun hb59=>?_)
      ·replace hF:=W.ite_t hb59 hF
       refine At.skip (At.vl (At.block (At.seq (At.region ?_))))
       obtain ⟨hq77,hF⟩:=hF
       refine At.d R R R R (does_entry (ja R) 1 R hq77) ?_
       refine At.d R R R R (does_extract20 (ja R)) ?_
       refine At.d R R R R (does_extract21 (ja R)) ?_
       refine At.f R (eff_alloc R R R tz_92) ?_
       rintro _ _ ⟨g58,rfl,rfl⟩
       refine At.f R (jz R R (ja R) 0 R (Sub.self (kPair (kInt .i64) (kInt .i64))) ty_92 (ja R)) ?_
       rintro _ _ ⟨rfl,rfl⟩
       refine At.d R R R R (jd (x:=(.tv (kInt .i64) e22.2)) (ja R)) ?_
       refine At.done (At.vl ?_)
       refine At.cut (fun rs L=>∃ (x130:Jv) (g65:Nat) (x131:Jv) (g66:Nat),Jq.c5 x129 (W.iter2 (Jq.l2 r2 (Jq.c3)) m3) e22 l10 x130 x131 Q∧rs=[.box g4 47 kRaw (.map (some g3)),.box g65 82 Ju x130,.box g66 82 Ju x131,.iter g39 (kPair (kInt .i64) (kInt .i64)) (kInt .i64) l10 b22 e22,.map g3 (kPair kStr kStr) kBool x129]∧L=mkL [(5,(.tv (kSlice Ju) r2)),(6,(.eq (.pointer (some ⟨g4,0,none⟩)))),(7,(.cls 34 0 (tupl [(.eq (.pointer (some ⟨g4,0,none⟩)))]))),(20,(.tv (kInt .i64) e22.2)),(21,(.eq (.pointer (some ⟨g65,0,none⟩)))),(22,(.eq (.pointer (some ⟨g66,0,none⟩)))),(103,(.eq (.pointer (some ⟨g39,0,none⟩))))]) ?_ ?_
       ·refine At.draw mixed [0,1,2,3] R [[],[],[],[]] (fun φ w hgd=>?_)
        obtain ⟨hq93,hF⟩:=hF
        obtain ⟨hq94,hF⟩:=hF
        refine AtH.take [0,1,2,3] hgd 0 R R R R (D':=#[Y,N,N,N,N,N,N,N,N,N,N,N,N,N]) (by kernel_rfl) (fun _ _ _ _ h=>h) R (jb (x:=(.tv (kSlice Ju) r2)) (ja R)) ?_
        refine AtH.take [0,1,2,3] hgd 1 R R R R (D':=#[Y,Y,N,N,N,N,N,N,N,N,N,N,N,N]) (by kernel_rfl) (fun _ _ _ _ h=>h) R (does_aidx_box (ja R) (ji _ _) ia_92_0) ?_
        refine AtH.take [0,1,2,3] hgd 2 R R R R (D':=#[Y,Y,Y,N,N,N,N,N,N,N,N,N,N,N]) (by kernel_rfl) (fun _ _ _ _ h=>h) R (jc (ja R) 0 R sub_a92_0 ty_3) ?_
        refine AtH.take [0,1,2,3] hgd 3 R R R R (D':=#[Y,Y,Y,Y,N,N,N,N,N,N,N,N,N,N]) (by kernel_rfl) (fun _ _ _ _ h=>h) R (vj Vd (ja R) (ja R) Tryz.underlying79 ty_82 hq93) ?_
        refine AtH.take [0,1,2,3] hgd 4 R R R R (D':=#[Y,Y,Y,Y,Y,N,N,N,N,N,N,N,N,N]) (by kernel_rfl) (fun _ _ _ _ h=>h) R (vw (K:=Ju) (ja R) ty_82) ?_
        refine AtH.take [0,1,2,3] hgd 5 R R R R (D':=#[Y,Y,Y,Y,Y,Y,N,N,N,N,N,N,N,N]) (by kernel_rfl) (fun _ _ _ _ h=>h) R (jb (x:=(.tv (kSlice Ju) r2)) (ja R)) ?_
        refine AtH.take [0,1,2,3] hgd 6 R R R R (D':=#[Y,Y,Y,Y,Y,Y,Y,N,N,N,N,N,N,N]) (by kernel_rfl) (fun _ _ _ _ h=>h) R (does_aidx_box (ja R) (ji _ _) ia_92_1) ?_
        refine AtH.take [0,1,2,3] hgd 7 R R R R (D':=#[Y,Y,Y,Y,Y,Y,Y,Y,N,N,N,N,N,N]) (by kernel_rfl) (fun _ _ _ _ h=>h) R (jc (ja R) 0 R sub_a92_1 ty_3) ?_
        refine AtH.take [0,1,2,3] hgd 8 R R R R (D':=#[Y,Y,Y,Y,Y,Y,Y,Y,Y,N,N,N,N,N]) (by kernel_rfl) (fun _ _ _ _ h=>h) R (vj Vd (ja R) (ja R) Tryz.underlying79 ty_82 hq94) ?_
        refine AtH.take [0,1,2,3] hgd 9 R R R R (D':=#[Y,Y,Y,Y,Y,Y,Y,Y,Y,Y,N,N,N,N]) (by kernel_rfl) (fun _ _ _ _ h=>h) R (vw (K:=Ju) (ja R) ty_82) ?_
        refine AtH.all2 10 11 (by kernel_rfl) ?_ ?_
        ·refine AtH.f [(0,0),(1,1),(2,2),(3,3)] R R R R R R (eff_alloc R R R tz_82) (D':=#[Y,Y,Y,Y,Y,Y,Y,Y,Y,Y,Y,N,N,N]) (by kernel_rfl) (by kernel_rfl) ?_
         rintro _ _ ⟨g69,rfl,rfl⟩
         refine ⟨_,.inr ⟨R,flat_eq⟩,?_⟩
         refine AtH.all1 11 (by kernel_rfl) ?_
         refine AtH.f [(0,1),(1,2),(2,3),(3,4)] R R R R R R (eff_alloc R R R tz_82) (D':=#[Y,Y,Y,Y,Y,Y,Y,Y,Y,Y,Y,Y,N,N]) (by kernel_rfl) (by kernel_rfl) ?_
         rintro _ _ ⟨g70,rfl,rfl⟩
         refine ⟨_,.inr ⟨R,flat_eq⟩,?_⟩
         refine AtH.all1 12 (by kernel_rfl) ?_
         refine AtH.eff0 [(0,2),(1,3),(2,4),(3,5)] R R R R R (jz R R (ja R) 1 R (Sub.self Ju) ty_82 (ja R)) (D':=#[Y,Y,Y,Y,Y,Y,Y,Y,Y,Y,Y,Y,Y,N]) (by kernel_rfl) (by kernel_rfl) ?_
         rintro _ _ ⟨rfl,rfl⟩
         refine AtH.all1 13 (by kernel_rfl) ?_
         refine AtH.eff0 [(0,2),(1,3),(2,4),(3,5)] R R R R R (jz R R (ja R) 0 R (Sub.self Ju) ty_82 (ja R)) (D':=#[Y,Y,Y,Y,Y,Y,Y,Y,Y,Y,Y,Y,Y,Y]) (by kernel_rfl) (by kernel_rfl) ?_
         rintro _ _ ⟨rfl,rfl⟩
         refine AtH.done (by kernel_rfl) ?_
         refine At.vl ?_
         refine At.w [3,1,0,4,5] R [(5,(.tv (kSlice Ju) r2)),(6,(.eq (.pointer (some ⟨g4,0,none⟩)))),(7,(.cls 34 0 (tupl [(.eq (.pointer (some ⟨g4,0,none⟩)))]))),(20,(.tv (kInt .i64) e22.2)),(21,(.eq (.pointer (some ⟨g69,0,none⟩)))),(22,(.eq (.pointer (some ⟨g70,0,none⟩)))),(103,(.eq (.pointer (some ⟨g39,0,none⟩))))] ⟨R,R,R,R,R,R,R,trivial⟩ (At.r ⟨(rd Vd r2 e22.1.1),g69,(rd Vd r2 e22.1.2),g70,hF,R,R⟩)
        ·refine AtH.f [(0,0),(1,1),(2,2),(3,3)] R R R R R R (eff_alloc R R R tz_82) (D':=#[Y,Y,Y,Y,Y,Y,Y,Y,Y,Y,N,Y,N,N]) (by kernel_rfl) (by kernel_rfl) ?_
         rintro _ _ ⟨g71,rfl,rfl⟩
         refine ⟨_,.inr ⟨R,flat_eq⟩,?_⟩
         refine AtH.all1 10 (by kernel_rfl) ?_
         refine AtH.f [(0,1),(1,2),(2,3),(3,4)] R R R R R R (eff_alloc R R R tz_82) (D':=#[Y,Y,Y,Y,Y,Y,Y,Y,Y,Y,Y,Y,N,N]) (by kernel_rfl) (by kernel_rfl) ?_
         rintro _ _ ⟨g72,rfl,rfl⟩
         refine ⟨_,.inr ⟨R,flat_eq⟩,?_⟩
         refine AtH.all1 12 (by kernel_rfl) ?_
         refine AtH.eff0 [(0,2),(1,3),(2,4),(3,5)] R R R R R (jz R R (ja R) 0 R (Sub.self Ju) ty_82 (ja R)) (D':=#[Y,Y,Y,Y,Y,Y,Y,Y,Y,Y,Y,Y,Y,N]) (by kernel_rfl) (by kernel_rfl) ?_
         rintro _ _ ⟨rfl,rfl⟩
         refine AtH.all1 13 (by kernel_rfl) ?_
         refine AtH.eff0 [(0,2),(1,3),(2,4),(3,5)] R R R R R (jz R R (ja R) 1 R (Sub.self Ju) ty_82 (ja R)) (D':=#[Y,Y,Y,Y,Y,Y,Y,Y,Y,Y,Y,Y,Y,Y]) (by kernel_rfl) (by kernel_rfl) ?_
         rintro _ _ ⟨rfl,rfl⟩
         refine AtH.done (by kernel_rfl) ?_
         refine At.vl ?_
         refine At.w [3,0,1,4,5] R [(5,(.tv (kSlice Ju) r2)),(6,(.eq (.pointer (some ⟨g4,0,none⟩)))),(7,(.cls 34 0 (tupl [(.eq (.pointer (some ⟨g4,0,none⟩)))]))),(20,(.tv (kInt .i64) e22.2)),(21,(.eq (.pointer (some ⟨g72,0,none⟩)))),(22,(.eq (.pointer (some ⟨g71,0,none⟩)))),(103,(.eq (.pointer (some ⟨g39,0,none⟩))))] ⟨R,R,R,R,R,R,R,trivial⟩ (At.r ⟨(rd Vd r2 e22.1.1),g72,(rd Vd r2 e22.1.2),g71,hF,R,R⟩)
       ·rintro _ _ ⟨x130,g65,x131,g66,hF,rfl,rfl⟩
        unfold Jq.c5 at hF
        refine At.seq ?_
        refine At.freezebox 2 R ?_
        refine At.ptrslot 2 22 R R (Sub.self Ju) ?_
        refine At.draw mixed [0,1,3,4] R [[],[],[],[]] (fun φ w hgd=>?_)
        replace hF:=W.vq hF
        refine AtH.take [0,1,2,3] hgd 0 R R R R (D':=#[Y,N,N,N,N,N,N,N,N,N,N,N,N,N,N]) (by kernel_rfl) (fun _ _ _ _ h=>h) R (Ji (K:=Ju) (ja R) ze wb) ?_
        refine AtH.take [0,1,2,3] hgd 1 R R R R (D':=#[Y,Y,N,N,N,N,N,N,N,N,N,N,N,N,N]) (by kernel_rfl) (fun _ _ _ _ h=>h) R (does_slice_ptr (ja R) Tryz.underlying50 ty_9.size (arrl_cons (arrl_one _ _)) R R) ?_
        refine AtH.take [0,1,2,3] hgd 2 R R R R (D':=#[Y,Y,Y,N,N,N,N,N,N,N,N,N,N,N,N]) (by kernel_rfl) (fun _ _ _ _ h=>h) R (je (ja R) ze) ?_
        refine AtH.take [0,1,2,3] hgd 3 R R R R (D':=#[Y,Y,Y,Y,N,N,N,N,N,N,N,N,N,N,N]) (by kernel_rfl) (fun _ _ _ _ h=>h) R (does_aidx_box (ja R) (ji _ _) ia_50_0) ?_
        refine AtH.take [0,1,2,3] hgd 4 R R R R (D':=#[Y,Y,Y,Y,Y,N,N,N,N,N,N,N,N,N,N]) (by kernel_rfl) (fun _ _ _ _ h=>h) R (jc (ja R) 1 R yi ty_9) ?_
        refine AtH.all1 5 (by kernel_rfl) ?_
        refine AtH.f [(0,0),(1,1),(2,3),(3,4)] R R R R R R (jn R R jp (jq R en_36 (jf (ja R) (jf (ja R) jg))) (Jm.ok hF) (by rintro _ _ ⟨r,_,rfl,_⟩;exact vp)) (D':=#[Y,Y,Y,Y,Y,Y,N,N,N,N,N,N,N,N,N]) (by kernel_rfl) (by kernel_rfl) ?_
        rintro _ _ ⟨_,_,⟨r51,hF,rfl,rfl⟩,rfl,rfl⟩
        refine ⟨_,.inr ⟨R,vp⟩,?_⟩
        replace hF:=W.vq hF
        refine AtH.take [0,1,2,3] hgd 6 R R R R (D':=#[Y,Y,Y,Y,Y,Y,Y,N,N,N,N,N,N,N,N]) (by kernel_rfl) (fun _ _ _ _ h=>h) R (jb (x:=(.tv kBool r51)) (ja R)) ?_
        refine AtH.vo [0,1,2,3] hgd 7 R R R (jx R) R R (D':=#[Y,Y,Y,Y,Y,Y,Y,Y,N,N,N,N,N,N,N]) (by kernel_rfl) (fun _ _ _ _ h=>h) R (fun hg70=>(Ji (K:=Ju) (ja R) ze wb)) ?_
        refine AtH.vo [0,1,2,3] hgd 8 R R R (jx R) R R (D':=#[Y,Y,Y,Y,Y,Y,Y,Y,Y,N,N,N,N,N,N]) (by kernel_rfl) (fun _ _ _ _ h=>h) R (fun hg71=>(does_slice_ptr (jh R hg71) Tryz.underlying50 ty_9.size (arrl_cons (arrl_one _ _)) R R)) ?_
        refine AtH.vo [0,1,2,3] hgd 9 R R R (jx R) R R (D':=#[Y,Y,Y,Y,Y,Y,Y,Y,Y,Y,N,N,N,N,N]) (by kernel_rfl) (fun _ _ _ _ h=>h) R (fun hg72=>(je (ja R) ze)) ?_
        refine AtH.vo [0,1,2,3] hgd 10 R R R (jx R) R R (D':=#[Y,Y,Y,Y,Y,Y,Y,Y,Y,Y,Y,N,N,N,N]) (by kernel_rfl) (fun _ _ _ _ h=>h) R (fun hg73=>(does_aidx_box (jh R hg73) (ji _ _) ia_50_1)) ?_
        refine AtH.vo [0,1,2,3] hgd 11 R R R (jx R) R R (D':=#[Y,Y,Y,Y,Y,Y,Y,Y,Y,Y,Y,Y,N,N,N]) (by kernel_rfl) (fun _ _ _ _ h=>h) R (fun hg74=>(jc (jh R hg74) 1 R yj ty_9)) ?_
        refine AtH.all1 12 (by kernel_rfl) ?_
        refine AtH.effG [(0,0),(1,1),(2,3),(3,4)] R R R R R R R (jx R) (D':=#[Y,Y,Y,Y,Y,Y,Y,Y,Y,Y,Y,Y,Y,N,N]) (by kernel_rfl) (by kernel_rfl) hF (fun r=>.tv kBool r) (fun _=>vp) (fun hg75 hF=>vr (jn R R jp (jq R en_36 (jf (jh R hg75) (jf (jh R hg75) jg))) (Jm.ok hF) (by rintro _ _ ⟨r,_,rfl,_⟩;exact vp)) (by rintro _ _ ⟨_,_,⟨r,hF,rfl,rfl⟩,rfl,rfl⟩;exact ⟨r,hF,R,R⟩)) (fun r52 hF=>?_)
        refine AtH.take [0,1,2,3] hgd 13 R R R R (D':=#[Y,Y,Y,Y,Y,Y,Y,Y,Y,Y,Y,Y,Y,Y,N]) (by kernel_rfl) (fun _ _ _ _ h=>h) R (jm (ja R) (jl _) (ja R) vi) ?_
        refine AtH.take [0,1,2,3] hgd 14 R R R R (D':=#[Y,Y,Y,Y,Y,Y,Y,Y,Y,Y,Y,Y,Y,Y,Y]) (by kernel_rfl) (fun _ _ _ _ h=>h) R (jd (x:=(.tv kBool (r51||r52))) (ja R)) ?_
        refine AtH.done (by kernel_rfl) ?_
        refine At.vl (At.seq (At.seq (At.region (At.d R R R R (je (ja R) ze) ?_))))
        refine At.d R R R R (jc (ja R) 1 R wb ty_50) ?_
        refine At.d R R R R (Ji (K:=Ju) (ja R) ze wb) ?_
        refine At.d R R R R (vw (K:=(kPair kStr kStr)) (ja R) ty_50) ?_
        refine At.d R R R R (jk (ja R) (ja R) (bin_eq eqty_50)) ?_
        refine At.d R R R R (jb (x:=(.tv kBool (eq_a50 x130.nodes x131.nodes))) (ja R)) ?_
        refine At.vn R R R R (jx R) R (fun hg76=>(jb (x:=(.tv (kInt .i64) e22.2)) (ja R))) ?_
        refine At.vn R R R R (jx R) R (fun hg77=>(jk (jh R hg77) (ji _ _) bin_eql)) ?_
        refine At.vn R R R R (jx R) R (fun hg78=>(jb (x:=(.tv kBool (e22.2==(1:Int)))) (jh R hg78))) ?_
        refine At.vn R R R R (ju R) R (fun hg79=>(jb (x:=(.tv kBool (r51||r52))) (ja R))) ?_
        refine At.vn R R R R (jx R) R (fun hg80=>(jm (jh R hg80) (ja R) (jl _) (pick_andG (and_of hg80)))) ?_
        refine At.d R R R R (jm (ja R) (jl _) (ja R) vi) ?_
        refine At.done (At.vl ?_)
        refine At.cond (ja R) (fun hb60=>?_) (fun hb60=>?_)
        ·replace hF:=W.ite_t hb60 hF
         refine At.exit ?_
         refine At.x ?_
         refine At.h ?_
         refine At.vl ?_
         refine At.w [0,3,4] R [(5,(.tv (kSlice Ju) r2)),(6,(.eq (.pointer (some ⟨g4,0,none⟩)))),(7,(.cls 34 0 (tupl [(.eq (.pointer (some ⟨g4,0,none⟩)))]))),(103,(.eq (.pointer (some ⟨g39,0,none⟩))))] ⟨R,R,R,R,trivial⟩ (At.r ⟨l10,b22,e22,x129,hF,R,R⟩)
        ·replace hF:=W.ite_f hb60 hF
         refine At.skip (At.vl (At.seq (At.region (At.d R R R R (je (ja R) fa_82_1) ?_))))
         refine At.d R R R R (jc (ja R) 1 R yv ty_41) ?_
         refine At.d R R R R (jt (ja R) Tryz.underlying41) ?_
         refine At.d R R R R (jb (x:=(.tv (kInt .i64) (0:Int))) (ji _ _)) ?_
         refine At.done (At.vl (At.block ?_))
         obtain ⟨n3,hF⟩:=hF
         refine At.w [0,3,4] R [(5,(.tv (kSlice Ju) r2)),(6,(.eq (.pointer (some ⟨g4,0,none⟩)))),(7,(.cls 34 0 (tupl [(.eq (.pointer (some ⟨g4,0,none⟩)))]))),(22,(.ptr Ju x131)),(103,(.eq (.pointer (some ⟨g39,0,none⟩)))),(146,(.tv (kSlice kStr) x130.owners)),(147,(.tv (kInt .i64) (x130.owners.length:Int))),(148,(.tv (kInt .i64) (0:Int)))] ⟨R,R,R,R,R,R,R,R,trivial⟩ ?_
         refine At.loop (fun m rs L=>∃ (x142:(List ((BA×BA)×Bool))) (t69:Int),W.iter2 (Jq.l3 (W.iter2 (Jq.l2 r2 (Jq.c3)) m3) l10 x130 x131) m x142 t69 Q∧rs=[.box g4 47 kRaw (.map (some g3)),.iter g39 (kPair (kInt .i64) (kInt .i64)) (kInt .i64) l10 b22 e22,.map g3 (kPair kStr kStr) kBool x142]∧L=mkL [(5,(.tv (kSlice Ju) r2)),(6,(.eq (.pointer (some ⟨g4,0,none⟩)))),(7,(.cls 34 0 (tupl [(.eq (.pointer (some ⟨g4,0,none⟩)))]))),(22,(.ptr Ju x131)),(103,(.eq (.pointer (some ⟨g39,0,none⟩)))),(146,(.tv (kSlice kStr) x130.owners)),(147,(.tv (kInt .i64) (x130.owners.length:Int))),(148,(.tv (kInt .i64) t69))]) ?_ ?_ (m:=n3) ⟨x129,(0:Int),hF,R,R⟩
         ·rintro rs L ⟨_,_,hF,_,_⟩;exact hF
         ·rintro m4 _ _ ⟨x142,t69,hF,rfl,rfl⟩
          replace hF:=W.iter2_s hF
          unfold Jq.l3 at hF
          refine At.seq (At.region (At.d R R R R (jk (ja R) (ja R) vg) ?_))
          refine At.done (At.vl (At.seq ?_))
          refine At.cond (ja R) (fun hb67=>?_) (fun hb67=>?_)
          ·replace hF:=W.ite_t hb67 hF
           refine At.skip (At.vl ?_)
           refine At.cut (fun rs L=>∃ (x146:(List ((BA×BA)×Bool))),Jq.c6 t69 (W.iter2 (Jq.l3 (W.iter2 (Jq.l2 r2 (Jq.c3)) m3) l10 x130 x131) m4) x146 Q∧rs=[.box g4 47 kRaw (.map (some g3)),.iter g39 (kPair (kInt .i64) (kInt .i64)) (kInt .i64) l10 b22 e22,.map g3 (kPair kStr kStr) kBool x146]∧L=mkL [(5,(.tv (kSlice Ju) r2)),(6,(.eq (.pointer (some ⟨g4,0,none⟩)))),(7,(.cls 34 0 (tupl [(.eq (.pointer (some ⟨g4,0,none⟩)))]))),(22,(.ptr Ju x131)),(103,(.eq (.pointer (some ⟨g39,0,none⟩)))),(146,(.tv (kSlice kStr) x130.owners)),(147,(.tv (kInt .i64) (x130.owners.length:Int))),(148,(.tv (kInt .i64) t69))]) ?_ ?_
           ·refine At.block (At.seq (At.region ?_))
            obtain ⟨hq89,hF⟩:=hF
            refine At.d R R R R (vj (⟨#[]⟩:BA) (ja R) (ja R) Tryz.underlying41 ty_9 hq89) ?_
            refine At.d R R R R (vw (K:=kStr) (ja R) ty_9) ?_
            refine At.d R R R R (jd (x:=(.tv kStr (rd (⟨#[]⟩:BA) x130.owners t69))) (ja R)) ?_
            refine At.done (At.vl (At.seq (At.region (At.d R R R R (Ji (K:=Ju) (ja R) fa_82_1 yv) ?_))))
            refine At.d R R R R (vw (K:=(kSlice kStr)) (ja R) ty_41) ?_
            refine At.d R R R R (jt (ja R) Tryz.underlying41) ?_
            refine At.d R R R R (jb (x:=(.tv (kInt .i64) (0:Int))) (ji _ _)) ?_
            refine At.done (At.vl (At.block ?_))
            obtain ⟨n2,hF⟩:=hF
            refine At.w [0,1,2] R [(5,(.tv (kSlice Ju) r2)),(6,(.eq (.pointer (some ⟨g4,0,none⟩)))),(7,(.cls 34 0 (tupl [(.eq (.pointer (some ⟨g4,0,none⟩)))]))),(22,(.ptr Ju x131)),(25,(.tv kStr (rd (⟨#[]⟩:BA) x130.owners t69))),(103,(.eq (.pointer (some ⟨g39,0,none⟩)))),(146,(.tv (kSlice kStr) x130.owners)),(147,(.tv (kInt .i64) (x130.owners.length:Int))),(148,(.tv (kInt .i64) t69)),(153,(.tv (kSlice kStr) x131.owners)),(154,(.tv (kInt .i64) (x131.owners.length:Int))),(155,(.tv (kInt .i64) (0:Int)))] ⟨R,R,R,R,R,R,R,R,R,R,R,R,trivial⟩ ?_
            refine At.loop (fun m rs L=>∃ (x149:(List ((BA×BA)×Bool))) (t75:Int),W.iter2 (Jq.l4 x130 x131 t69 (Jq.c6 t69 (W.iter2 (Jq.l3 (W.iter2 (Jq.l2 r2 (Jq.c3)) m3) l10 x130 x131) m4))) m x149 t75 Q∧rs=[.box g4 47 kRaw (.map (some g3)),.iter g39 (kPair (kInt .i64) (kInt .i64)) (kInt .i64) l10 b22 e22,.map g3 (kPair kStr kStr) kBool x149]∧L=mkL [(5,(.tv (kSlice Ju) r2)),(6,(.eq (.pointer (some ⟨g4,0,none⟩)))),(7,(.cls 34 0 (tupl [(.eq (.pointer (some ⟨g4,0,none⟩)))]))),(22,(.ptr Ju x131)),(25,(.tv kStr (rd (⟨#[]⟩:BA) x130.owners t69))),(103,(.eq (.pointer (some ⟨g39,0,none⟩)))),(146,(.tv (kSlice kStr) x130.owners)),(147,(.tv (kInt .i64) (x130.owners.length:Int))),(148,(.tv (kInt .i64) t69)),(153,(.tv (kSlice kStr) x131.owners)),(154,(.tv (kInt .i64) (x131.owners.length:Int))),(155,(.tv (kInt .i64) t75))]) ?_ ?_ (m:=n2) ⟨x142,(0:Int),hF,R,R⟩
            ·rintro rs L ⟨_,_,hF,_,_⟩;exact hF
            ·rintro m5 _ _ ⟨x149,t75,hF,rfl,rfl⟩
             replace hF:=W.iter2_s hF
             unfold Jq.l4 at hF
             refine At.seq (At.region (At.d R R R R (jk (ja R) (ja R) vg) ?_))
             refine At.done (At.vl (At.seq ?_))
             refine At.cond (ja R) (fun hb72=>?_) (fun hb72=>?_)
             ·replace hF:=W.ite_t hb72 hF
              refine At.skip (At.vl (At.seq (At.block (At.seq (At.region ?_)))))
              obtain ⟨hq92,hF⟩:=hF
              refine At.d R R R R (vj (⟨#[]⟩:BA) (ja R) (ja R) Tryz.underlying41 ty_9 hq92) ?_
              refine At.d R R R R (vw (K:=kStr) (ja R) ty_9) ?_
              refine At.d R R R R (jd (x:=(.tv kStr (rd (⟨#[]⟩:BA) x131.owners t75))) (ja R)) ?_
              refine At.done (At.vl (At.region (At.d R R R R (jb (x:=(.cls 34 0 (tupl [(.eq (.pointer (some ⟨g4,0,none⟩)))]))) (ja R)) ?_)))
              refine At.d R R R R (jb (x:=(.tv kStr (rd (⟨#[]⟩:BA) x130.owners t69))) (ja R)) ?_
              refine At.d R R R R (jb (x:=(.tv kStr (rd (⟨#[]⟩:BA) x131.owners t75))) (ja R)) ?_
              replace hF:=W.vq hF
              refine At.f R (jo R R (ent_val0 R (ja R) en_34 (jf (ja R) (jf (ja R) jg))) [0,2] R (wl.ok hF)) ?_
              rintro _ _ ⟨_,_,⟨r61,hF,rfl,rfl⟩,rfl,rfl⟩
              refine At.done ?_
              refine At.n ?_
              refine At.vl (At.region (At.d R R R R (jk (ja R) (ji _ _) vf) ?_))
              refine At.d R R R R (jb (x:=(.tv (kInt .i64) (w64 (t75+(1:Int))))) (ja R)) ?_
              refine At.done (At.vl ?_)
              refine At.w [0,3,1] R [(5,(.tv (kSlice Ju) r2)),(6,(.eq (.pointer (some ⟨g4,0,none⟩)))),(7,(.cls 34 0 (tupl [(.eq (.pointer (some ⟨g4,0,none⟩)))]))),(22,(.ptr Ju x131)),(25,(.tv kStr (rd (⟨#[]⟩:BA) x130.owners t69))),(103,(.eq (.pointer (some ⟨g39,0,none⟩)))),(146,(.tv (kSlice kStr) x130.owners)),(147,(.tv (kInt .i64) (x130.owners.length:Int))),(148,(.tv (kInt .i64) t69)),(153,(.tv (kSlice kStr) x131.owners)),(154,(.tv (kInt .i64) (x131.owners.length:Int))),(155,(.tv (kInt .i64) (w64 (t75+(1:Int)))))] ⟨R,R,R,R,R,R,R,R,R,R,R,R,trivial⟩ (At.r ⟨r61,(w64 (t75+(1:Int))),hF,R,R⟩)
             ·replace hF:=W.ite_f hb72 hF
              refine At.exit ?_
              refine At.x (At.x ?_)
              refine At.h ?_
              refine At.n ?_
              refine At.vl ?_
              refine At.w [0,1,2] R [(5,(.tv (kSlice Ju) r2)),(6,(.eq (.pointer (some ⟨g4,0,none⟩)))),(7,(.cls 34 0 (tupl [(.eq (.pointer (some ⟨g4,0,none⟩)))]))),(22,(.ptr Ju x131)),(103,(.eq (.pointer (some ⟨g39,0,none⟩)))),(146,(.tv (kSlice kStr) x130.owners)),(147,(.tv (kInt .i64) (x130.owners.length:Int))),(148,(.tv (kInt .i64) t69))] ⟨R,R,R,R,R,R,R,R,trivial⟩ (At.r ⟨x149,hF,R,R⟩)
           ·rintro _ _ ⟨x146,hF,rfl,rfl⟩
            unfold Jq.c6 at hF
            refine At.region (At.d R R R R (jk (ja R) (ji _ _) vf) ?_)
            refine At.d R R R R (jb (x:=(.tv (kInt .i64) (w64 (t69+(1:Int))))) (ja R)) ?_
            refine At.done (At.vl ?_)
            refine At.w [0,1,2] R [(5,(.tv (kSlice Ju) r2)),(6,(.eq (.pointer (some ⟨g4,0,none⟩)))),(7,(.cls 34 0 (tupl [(.eq (.pointer (some ⟨g4,0,none⟩)))]))),(22,(.ptr Ju x131)),(103,(.eq (.pointer (some ⟨g39,0,none⟩)))),(146,(.tv (kSlice kStr) x130.owners)),(147,(.tv (kInt .i64) (x130.owners.length:Int))),(148,(.tv (kInt .i64) (w64 (t69+(1:Int)))))] ⟨R,R,R,R,R,R,R,R,trivial⟩ (At.r ⟨x146,(w64 (t69+(1:Int))),hF,R,R⟩)
          ·replace hF:=W.ite_f hb67 hF
           refine At.exit ?_
           refine At.x (At.x ?_)
           refine At.h ?_
           refine At.n ?_
           refine At.vl ?_
           refine At.w [0,1,2] R [(5,(.tv (kSlice Ju) r2)),(6,(.eq (.pointer (some ⟨g4,0,none⟩)))),(7,(.cls 34 0 (tupl [(.eq (.pointer (some ⟨g4,0,none⟩)))]))),(103,(.eq (.pointer (some ⟨g39,0,none⟩))))] ⟨R,R,R,R,trivial⟩ (At.r ⟨l10,b22,e22,x142,hF,R,R⟩)
      ·replace hF:=W.ite_f hb59 hF
       refine At.exit ?_
       refine At.x (At.x ?_)
       refine At.h ?_
       refine At.vl ?_
       refine At.w [0,2] R [(6,(.eq (.pointer (some ⟨g4,0,none⟩))))] ⟨R,trivial⟩ (At.r ⟨x129,hF,R,R⟩)
    ·rintro _ _ ⟨x84,hF,rfl,rfl⟩
     unfold Jq.c3 at hF
     refine At.seq (At.region (At.d R R R R (jd (x:=(.eq (.slice none 0 0))) (opd_eq _)) ?_))
     refine At.done (At.vl ?_)
     refine At.cut (fun rs L=>∃ (x91:(List Violation)) (v40:Value),Jq.c4 x91 Q∧rs=[.row v40 43 kViolation x91]∧L=mkL [(28,(.eq v40))]) ?_ ?_
     ·refine At.seq (At.region (At.d R R R R (does_load_raw (ja R) 0 R (Sub.self kRaw) tyr_47 R) ?_))
      refine At.mapfreeze 1 [165] R ⟨R,trivial⟩ ?_
      refine At.boxtold 0 (K':=(kMp (kPair kStr kStr) kBool)) (y:=x84) R (Turn.fmap (j:=1) R) ?_
      refine At.f R (eff_range R R R (ja R) Tryz.underlying47 (((⟨#[]⟩:BA),(⟨#[]⟩:BA)),false)) ?_
      rintro _ _ ⟨g35,rfl,rfl⟩
      refine At.done (At.vl (At.block ?_))
      refine At.nilrow 43 kViolation ?_
      obtain ⟨n1,hF⟩:=hF
      refine At.w [0,1] R [(28,(.eq (.slice none 0 0))),(166,(.eq (.pointer (some ⟨g35,0,none⟩))))] ⟨R,R,trivial⟩ ?_
      refine At.loop (fun m rs L=>∃ (x96:(List Violation)) (v49:Value) (x97:(List ((BA×BA)×Bool))) (b15:Bool) (e15:((BA×BA)×Bool)),W.iter2 (Jq.l1 (Jq.c4)) m x96 x97 Q∧rs=[.row v49 43 kViolation x96,.iter g35 (kPair kStr kStr) kBool x97 b15 e15]∧L=mkL [(28,(.eq v49)),(166,(.eq (.pointer (some ⟨g35,0,none⟩))))]) ?_ ?_ (m:=n1) ⟨([]:List Violation),(.slice none 0 0),x84,false,(((⟨#[]⟩:BA),(⟨#[]⟩:BA)),false),hF,R,R⟩
      ·rintro rs L ⟨_,_,_,_,_,hF,_,_⟩;exact hF
      ·rintro m2 _ _ ⟨x96,v49,x97,b15,e15,hF,rfl,rfl⟩
       replace hF:=W.iter2_s hF
       unfold Jq.l1 at hF
       refine At.seq (At.region (At.f R (eff_next R R R (ja R) 1 R hF) ?_))
       rintro _ _ ⟨b16,e16,l7,hF,rfl,rfl⟩
       refine At.d R R R R (does_extract_tcons (ja R)) ?_
       refine At.done (At.vl (At.seq ?_))
       refine At.cond (ja R) (fun hb42=>?_) (fun hb42=>?_)
       ·replace hF:=W.ite_t hb42 hF
        refine At.skip (At.vl (At.block (At.seq (At.region ?_))))
        obtain ⟨hq57,hF⟩:=hF
        refine At.d R R R R (does_entry (ja R) 1 R hq57) ?_
        refine At.d R R R R (does_extract20 (ja R)) ?_
        refine At.f R (eff_alloc R R R tz_50) ?_
        rintro _ _ ⟨g38,rfl,rfl⟩
        refine At.f R (jz R R (ja R) 0 R (Sub.self (kPair kStr kStr)) ty_50 (ja R)) ?_
        rintro _ _ ⟨rfl,rfl⟩
        refine At.done (At.vl ?_)
        refine At.boxrow 0 R (arrl_cons (arrl_one _ _)) R R ?_
        refine At.region (At.d R R R R (jb (x:=(.eq v49)) (ja R)) ?_)
        refine At.d R R R R (does_slice_arr (ja R) Tryz.underlying50 ty_9.size) ?_
        replace hF:=W.vq hF
        refine At.f R (jo R R (jq R en_38 (jf (ja R) jg)) [0] R (vt.ok hF)) ?_
        rintro _ _ ⟨_,_,⟨r38,v50,hF,rfl,rfl⟩,rfl,rfl⟩
        refine At.freeze 0 173 R R ?_
        refine At.d R R R R (vd (jr (ji _ _) (jr (ja R) js)) zr_43 bd_43 R (fills_cons R sub_Violation_1 (fills_cons R zj fills_nil))) ?_
        refine At.f R (vc R R R (os:=[.tmp 174]) R sl_33 (xs:=([(⟨(⟨#[]⟩:BA),(2:Int),r38⟩:Violation)]:List Violation)) (jf (ja R) jg) R R) ?_
        rintro _ _ ⟨v51,rfl,rfl⟩
        obtain ⟨hq58,hF⟩:=hF
        refine At.f R (eff_append_row R R R 3 0 R R (ja R) (ja R) sl_33 hq58) ?_
        rintro _ _ ⟨v52,rfl,rfl⟩
        refine At.d R R R R (jd (x:=(.eq v52)) (ja R)) ?_
        refine At.done ?_
        refine At.n ?_
        refine At.vl ?_
        refine At.w [3,4] R [(28,(.eq v52)),(166,(.eq (.pointer (some ⟨g35,0,none⟩))))] ⟨R,R,trivial⟩ (At.r ⟨(x96++([(⟨(⟨#[]⟩:BA),(2:Int),r38⟩:Violation)]:List Violation)),v52,l7,b16,e16,hF,R,R⟩)
       ·replace hF:=W.ite_f hb42 hF
        refine At.exit ?_
        refine At.x (At.x ?_)
        refine At.h ?_
        refine At.vl ?_
        refine At.w [0] R [(28,(.eq v49))] ⟨R,trivial⟩ (At.r ⟨x96,v49,hF,R,R⟩)
     ·rintro _ _ ⟨x91,v40,hF,rfl,rfl⟩
      unfold Jq.c4 at hF
      refine At.seq (At.region (At.d R R R R (jb (x:=(.eq v40)) (ja R)) ?_))
      replace hF:=W.vq hF
      refine At.f R (jo R R (jq R en_39 (jf (ja R) (jf (opd_fn 40) jg))) [0] R (Vk.ok hF)) ?_
      rintro _ _ ⟨_,_,⟨r35,hF,rfl,rfl⟩,rfl,rfl⟩
      refine At.done (At.vl (At.seq (At.region (At.d R R R R (jb (x:=(.eq v40)) (ja R)) ?_))))
      refine At.d R R R R (jd (x:=(.eq v40)) (ja R)) ?_
      refine At.done (At.vl (At.ret ?_))
      exact At.j rfl (rv_tmp rfl) [0] rfl ⟨r35,_,hF,rfl,rfl⟩
def Vm.c1 (r1:(Va×Bool)) (r2:(List Jv)) (x4:(List (List BA))):W ((List Segment)×(List (List BA))):=W.bind (Jj.F r1.1 r2) (fun r3=>W.ret (r3,x4))
def Vm.l1 (r2:(List Jv)) (K1:(List (List BA))→W ((List Segment)×(List (List BA)))) (A1:(List (List BA))→Int→W ((List Segment)×(List (List BA)))) (x7:(List (List BA))) (t6:Int):W ((List Segment)×(List (List BA))):=W.ite (decide (t6<(r2.length:Int))) (W.req (0≤t6∧t6<(r2.length:Int)) (W.req (0≤t6∧t6<(r2.length:Int)) (W.req ((x7.length+([(rd Vd r2 t6).owners]:List (List BA)).length)*24≤140737488355328∧x7.length+([(rd Vd r2 t6).owners]:List (List BA)).length≤140737488355328) (A1 (x7++([(rd Vd r2 t6).owners]:List (List BA))) (w64 (t6+(1:Int))))))) (K1 x7)
def Vm.F (m1:Map):W ((List Segment)×(List (List BA))):=W.bind (qu.F m1) (fun r1=>W.ite (!r1.2) (W.ret (([]:List Segment),([]:List (List BA)))) (W.bind (Jd.F r1.1) (fun r2=>W.ex fun n=>W.iter2 (Vm.l1 r2 (Vm.c1 r1 r2)) n ([]:List (List BA)) (0:Int))))
theorem Vm.ok {m1:Map} {Q:((List Segment)×(List (List BA)))→Prop} (hF:Vm.F m1 Q):Con Tryz.prog 12 [.tv kMap m1] [] (fun ta rs'=>∃ (r:((List Segment)×(List (List BA)))) (u0:Value) (u1:Value),Q r∧ta=.tup2 (.eq u0) (.eq u1)∧rs'=[.row u0 39 kSegment r.1,.row u1 41 (kSlice kStr) r.2]):=by
 refine Con.i Tryz.func12 Tryz.ntmps12 R R (fun C=>?_)
 unfold Vm.F at hF
 refine At.seq (At.region (At.f R (jy R R R (ja R)) ?_))
 rintro _ _ ⟨g1,rfl,rfl⟩
 refine At.d R R R R (jd (x:=(.eq (.slice none 0 0))) (opd_eq _)) ?_
 refine At.d R R R R (jd (x:=(.eq (.slice none 0 0))) (opd_eq _)) ?_
 refine At.done (At.vl (At.seq (At.region (At.d R R R R (jc (ja R) 0 R (Sub.self kMap) ty_24) ?_))))
 replace hF:=W.vq hF
 refine At.f R (jo R R (jq R en_30 (jf (ja R) jg)) [] R (qu.ok hF)) ?_
 rintro _ _ ⟨_,_,⟨r1,hF,rfl,rfl⟩,rfl,rfl⟩
 refine At.d R R R R (jb (x:=(.tup2 (.tv Jy r1.1) (.tv kBool r1.2))) (ja R)) ?_
 refine At.d R R R R (does_extract20 (ja R)) ?_
 refine At.d R R R R (does_extract21 (ja R)) ?_
 refine At.f R (eff_alloc R R R tz_76) ?_
 rintro _ _ ⟨g2,rfl,rfl⟩
 refine At.f R (jz R R (ja R) 0 R (Sub.self Jy) ty_76 (ja R)) ?_
 rintro _ _ ⟨rfl,rfl⟩
 refine At.d R R R R (jd (x:=(.tv kBool r1.2)) (ja R)) ?_
 refine At.done (At.vl (At.seq (At.seq (At.region (At.d R R R R (jb (x:=(.tv kBool r1.2)) (ja R)) ?_)))))
 refine At.d R R R R (ve (ja R)) ?_
 refine At.done (At.vl ?_)
 refine At.cond (ja R) (fun hb1=>?_) (fun hb1=>?_)
 ·replace hF:=W.ite_t hb1 hF
  refine At.seq (At.region (At.d R R R R (jd (x:=(.eq (.slice none 0 0))) (opd_eq _)) ?_))
  refine At.d R R R R (jd (x:=(.eq (.slice none 0 0))) (opd_eq _)) ?_
  refine At.done (At.vl (At.ret (At.vm ?_)))
  refine At.nilrow 39 kSegment ?_
  refine At.nilrow 41 (kSlice kStr) ?_
  exact At.ret_2 rfl (rv_tmp rfl) (rv_tmp rfl) [1,0] rfl ⟨(([]:List Segment),([]:List (List BA))),_,_,hF,rfl,rfl⟩
 ·replace hF:=W.ite_f hb1 hF
  refine At.skip (At.vl (At.seq (At.region (At.d R R R R (jc (ja R) 0 R (Sub.self Jy) ty_76) ?_))))
  replace hF:=W.vq hF
  refine At.f R (jo R R (jq R en_31 (jf (ja R) jg)) [] R (Jd.ok hF)) ?_
  rintro _ _ ⟨_,_,⟨r2,v1,hF,rfl,rfl⟩,rfl,rfl⟩
  refine At.d R R R R (jd (x:=(.eq v1)) (ja R)) ?_
  refine At.done (At.vl (At.seq (At.region (At.d R R R R (jd (x:=(.eq (.slice none 0 0))) (opd_eq _)) ?_))))
  refine At.done (At.vl ?_)
  refine At.cut (fun rs L=>∃ (x4:(List (List BA))) (v9:Value),Vm.c1 r1 r2 x4 Q∧rs=[.box g2 76 Jy r1.1,.row v1 82 Ju r2,.row v9 41 (kSlice kStr) x4]∧L=mkL [(4,(.eq (.pointer (some ⟨g2,0,none⟩)))),(6,(.eq v1)),(7,(.eq v9))]) ?_ ?_
  ·refine At.seq (At.region (At.d R R R R (jb (x:=(.eq v1)) (ja R)) ?_))
   refine At.d R R R R (does_len_row (ja R) 0 R Tryz.underlying79) ?_
   refine At.d R R R R (jb (x:=(.tv (kInt .i64) (0:Int))) (ji _ _)) ?_
   refine At.done (At.vl (At.block ?_))
   refine At.nilrow 41 (kSlice kStr) ?_
   obtain ⟨n1,hF⟩:=hF
   refine At.w [2,1,0] R [(4,(.eq (.pointer (some ⟨g2,0,none⟩)))),(6,(.eq v1)),(7,(.eq (.slice none 0 0))),(19,(.eq v1)),(20,(.tv (kInt .i64) (r2.length:Int))),(21,(.tv (kInt .i64) (0:Int)))] ⟨R,R,R,R,R,R,trivial⟩ ?_
   refine At.loop (fun m rs L=>∃ (x7:(List (List BA))) (v17:Value) (t6:Int),W.iter2 (Vm.l1 r2 (Vm.c1 r1 r2)) m x7 t6 Q∧rs=[.box g2 76 Jy r1.1,.row v1 82 Ju r2,.row v17 41 (kSlice kStr) x7]∧L=mkL [(4,(.eq (.pointer (some ⟨g2,0,none⟩)))),(6,(.eq v1)),(7,(.eq v17)),(19,(.eq v1)),(20,(.tv (kInt .i64) (r2.length:Int))),(21,(.tv (kInt .i64) t6))]) ?_ ?_ (m:=n1) ⟨([]:List (List BA)),(.slice none 0 0),(0:Int),hF,R,R⟩
   ·rintro rs L ⟨_,_,_,hF,_,_⟩;exact hF
   ·rintro m2 _ _ ⟨x7,v17,t6,hF,rfl,rfl⟩
    replace hF:=W.iter2_s hF
    unfold Vm.l1 at hF
    refine At.seq (At.region (At.d R R R R (jk (ja R) (ja R) vg) ?_))
    refine At.done (At.vl (At.seq ?_))
    refine At.cond (ja R) (fun hb6=>?_) (fun hb6=>?_)
    ·replace hF:=W.ite_t hb6 hF
     refine At.skip (At.vl (At.seq (At.block (At.seq (At.region ?_)))))
     obtain ⟨hq13,hF⟩:=hF
     refine At.d R R R R (does_idx_row (ja R) 1 R (ja R) Tryz.underlying79 ty_82 hq13) ?_
     obtain ⟨hq14,hF⟩:=hF
     refine At.d R R R R (Jh (ja R) 1 R t6 0 R Vd hq14 (Sub.self Ju) ty_82) ?_
     refine At.f R (eff_alloc R R R tz_82) ?_
     rintro _ _ ⟨g7,rfl,rfl⟩
     refine At.f R (jz R R (ja R) 0 R (Sub.self Ju) ty_82 (ja R)) ?_
     rintro _ _ ⟨rfl,rfl⟩
     refine At.done (At.vl (At.region (At.d R R R R (jb (x:=(.eq v17)) (ja R)) ?_)))
     refine At.d R R R R (je (ja R) fa_82_1) ?_
     refine At.d R R R R (jc (ja R) 0 R yv ty_41) ?_
     refine At.f R (vc R R R (os:=[.tmp 27]) R sl_28 (xs:=([(rd Vd r2 t6).owners]:List (List BA))) (jf (ja R) jg) R R) ?_
     rintro _ _ ⟨v18,rfl,rfl⟩
     obtain ⟨hq15,hF⟩:=hF
     refine At.f R (eff_append_row R R R 4 0 R R (ja R) (ja R) sl_28 hq15) ?_
     rintro _ _ ⟨v19,rfl,rfl⟩
     refine At.d R R R R (jd (x:=(.eq v19)) (ja R)) ?_
     refine At.done ?_
     refine At.n ?_
     refine At.vl (At.region (At.d R R R R (jk (ja R) (ji _ _) vf) ?_))
     refine At.d R R R R (jb (x:=(.tv (kInt .i64) (w64 (t6+(1:Int))))) (ja R)) ?_
     refine At.done (At.vl ?_)
     refine At.w [2,3,4] R [(4,(.eq (.pointer (some ⟨g2,0,none⟩)))),(6,(.eq v1)),(7,(.eq v19)),(19,(.eq v1)),(20,(.tv (kInt .i64) (r2.length:Int))),(21,(.tv (kInt .i64) (w64 (t6+(1:Int)))))] ⟨R,R,R,R,R,R,trivial⟩ (At.r ⟨(x7++([(rd Vd r2 t6).owners]:List (List BA))),v19,(w64 (t6+(1:Int))),hF,R,R⟩)
    ·replace hF:=W.ite_f hb6 hF
     refine At.exit ?_
     refine At.x (At.x ?_)
     refine At.h ?_
     refine At.vl ?_
     refine At.w [0,1,2] R [(4,(.eq (.pointer (some ⟨g2,0,none⟩)))),(6,(.eq v1)),(7,(.eq v17))] ⟨R,R,R,trivial⟩ (At.r ⟨x7,v17,hF,R,R⟩)
  ·rintro _ _ ⟨x4,v9,hF,rfl,rfl⟩
   unfold Vm.c1 at hF
   refine At.seq (At.region (At.d R R R R (jc (ja R) 0 R (Sub.self Jy) ty_76) ?_))
   refine At.d R R R R (jb (x:=(.eq v1)) (ja R)) ?_
   refine At.freeze2 1 6 32 R R R ?_
   replace hF:=W.vq hF
   refine At.f R (jo R R (jq R en_32 (jf (ja R) (jf (ja R) jg))) [] R (Jj.ok hF)) ?_
   rintro _ _ ⟨_,_,⟨r3,v10,hF,rfl,rfl⟩,rfl,rfl⟩
   refine At.d R R R R (jb (x:=(.eq v9)) (ja R)) ?_
   refine At.d R R R R (jd (x:=(.eq v10)) (ja R)) ?_
   refine At.d R R R R (jd (x:=(.eq v9)) (ja R)) ?_
   refine At.done (At.vl (At.ret ?_))
   exact At.ret_2 rfl (rv_tmp rfl) (rv_tmp rfl) [0,3] rfl ⟨(r3,x4),_,_,hF,rfl,rfl⟩
def qj.c1 (t3:Bool):W Bool:=W.ite t3 (W.ret true) (W.ret false)
def qj.F (t1:Segment) (t2:Segment):W Bool:=W.bind (wg.F t1 t2) (fun r1=>W.ite (r1==(2:Int)) ((qj.c1) (r1==(2:Int))) (W.ite (r1==(3:Int)) ((qj.c1) (r1==(3:Int))) ((qj.c1) (r1==(5:Int)))))
theorem qj.ok {t1:Segment} {t2:Segment} {Q:Bool→Prop} (hF:qj.F t1 t2 Q):Con Tryz.prog 46 [.tv kSegment t1,.ptr kSegment t2] [] (fun ta rs'=>∃ (r:Bool),Q r∧ta=.tv kBool r∧rs'=[]):=by
 refine Con.i Tryz.func46 Tryz.ntmps46 R R (fun C=>?_)
 unfold qj.F at hF
 refine At.seq (At.region (At.f R (jy R R R (ja R)) ?_))
 rintro _ _ ⟨g1,rfl,rfl⟩
 refine At.d R R R R (jd (x:=(.tv kBool false)) (jl _)) ?_
 refine At.done (At.vl (At.seq (At.seq (At.region (At.d R R R R (jc (ja R) 0 R (Sub.self kSegment) ty_39) ?_)))))
 refine At.d R R R R (vw (K:=kSegment) (ja R) ty_39) ?_
 replace hF:=W.vq hF
 refine At.f R (jn R R jp (jq R en_23 (jf (ja R) (jf (ja R) jg))) (wg.ok hF) (by rintro _ _ ⟨r,_,rfl,_⟩;exact flat_int)) ?_
 rintro _ _ ⟨_,_,⟨r1,hF,rfl,rfl⟩,rfl,rfl⟩
 refine At.done (At.vl (At.block ?_))
 refine At.cut (fun rs L=>∃ (t3:Bool),qj.c1 t3 Q∧rs=[]∧L=mkL [(7,(.tv kBool t3))]) ?_ ?_
 ·refine At.seq (At.region (At.d R R R R (jk (ja R) (ji _ _) bin_eql) ?_))
  refine At.d R R R R (jd (x:=(.tv kBool (r1==(2:Int)))) (ja R)) ?_
  refine At.done (At.vl ?_)
  refine At.cond (ja R) (fun hb4=>?_) (fun hb4=>?_)
  ·replace hF:=W.ite_t hb4 hF
   refine At.skip (At.vl ?_)
   refine At.w [] R [(7,(.tv kBool (r1==(2:Int))))] ⟨R,trivial⟩ (At.r ⟨(r1==(2:Int)),hF,R,R⟩)
  ·replace hF:=W.ite_f hb4 hF
   refine At.seq (At.region (At.d R R R R (jk (ja R) (ji _ _) bin_eql) ?_))
   refine At.d R R R R (jd (x:=(.tv kBool (r1==(3:Int)))) (ja R)) ?_
   refine At.done (At.vl ?_)
   refine At.cond (ja R) (fun hb5=>?_) (fun hb5=>?_)
   ·replace hF:=W.ite_t hb5 hF
    refine At.skip (At.vl ?_)
    refine At.w [] R [(7,(.tv kBool (r1==(3:Int))))] ⟨R,trivial⟩ (At.r ⟨(r1==(3:Int)),hF,R,R⟩)
   ·replace hF:=W.ite_f hb5 hF
    refine At.region (At.d R R R R (jk (ja R) (ji _ _) bin_eql) ?_)
    refine At.d R R R R (jd (x:=(.tv kBool (r1==(5:Int)))) (ja R)) ?_
    refine At.done (At.vl ?_)
    refine At.w [] R [(7,(.tv kBool (r1==(5:Int))))] ⟨R,trivial⟩ (At.r ⟨(r1==(5:Int)),hF,R,R⟩)
 ·rintro _ _ ⟨t3,hF,rfl,rfl⟩
  unfold qj.c1 at hF
  refine At.cond (ja R) (fun hb3=>?_) (fun hb3=>?_)
  ·replace hF:=W.ite_t hb3 hF
   refine At.seq (At.region (At.d R R R R (jd (x:=(.tv kBool true)) (jl _)) ?_))
   refine At.done (At.vl (At.ret ?_))
   refine At.q ?_
   refine At.vm ?_
   exact At.j rfl (rv_tmp rfl) [] rfl ⟨true,hF,rfl,rfl⟩
  ·replace hF:=W.ite_f hb3 hF
   refine At.skip ?_
   refine At.n ?_
   refine At.vl (At.seq (At.region (At.d R R R R (jd (x:=(.tv kBool false)) (jl _)) ?_)))
   refine At.done (At.vl (At.ret ?_))
   exact At.j rfl (rv_tmp rfl) [] rfl ⟨false,hF,rfl,rfl⟩
def vz.c1:W Int:=W.ret (-1:Int)
def vz.l1 (s1:(List Segment)) (c1:Segment) (K1:W Int) (A1:Int→W Int) (t6:Int):W Int:=W.ite (decide (t6<(s1.length:Int))) (W.req (0≤t6∧t6<(s1.length:Int)) (W.bind (qj.F (rd zSegment s1 t6) c1) (fun r5=>W.ite r5 (W.ret t6) (A1 (w64 (t6+(1:Int))))))) (K1)
def vz.F (s1:(List Segment)) (c1:Segment):W Int:=W.ex fun n=>W.iter1 (vz.l1 s1 c1 (vz.c1)) n (0:Int)
theorem vz.ok {s1:(List Segment)} {c1:Segment} {Q:Int→Prop} (hF:vz.F s1 c1 Q):Con Tryz.prog 74 [.tv (kSlice kSegment) s1,.cls 46 0 (tupl [.ptr kSegment c1])] [] (fun ta rs'=>∃ (r:Int),Q r∧ta=.tv (kInt .i64) r∧rs'=[]):=by
 refine Con.i Tryz.func74 Tryz.ntmps74 R R (fun C=>?_)
 unfold vz.F at hF
 refine At.seq (At.region (At.d R R R R (jd (x:=(.tv (kInt .i64) (0:Int))) (ji _ _)) ?_))
 refine At.done (At.vl ?_)
 refine At.cut (fun rs L=>∃ _:Unit,vz.c1 Q∧rs=[]∧L=mkL []) ?_ ?_
 ·refine At.seq (At.region (At.d R R R R (jb (x:=(.tv (kSlice kSegment) s1)) (ja R)) ?_))
  refine At.d R R R R (jt (ja R) Tryz.underlying27) ?_
  refine At.d R R R R (jb (x:=(.tv (kInt .i64) (0:Int))) (ji _ _)) ?_
  refine At.done (At.vl (At.block ?_))
  obtain ⟨n1,hF⟩:=hF
  refine At.w [] R [(0,(.tv (kSlice kSegment) s1)),(1,(.cls 46 0 (tupl [(.ptr kSegment c1)]))),(7,(.tv (kInt .i64) (s1.length:Int))),(8,(.tv (kInt .i64) (0:Int)))] ⟨R,R,R,R,trivial⟩ ?_
  refine At.loop (fun m rs L=>∃ (t6:Int),W.iter1 (vz.l1 s1 c1 (vz.c1)) m t6 Q∧rs=[]∧L=mkL [(0,(.tv (kSlice kSegment) s1)),(1,(.cls 46 0 (tupl [(.ptr kSegment c1)]))),(7,(.tv (kInt .i64) (s1.length:Int))),(8,(.tv (kInt .i64) t6))]) ?_ ?_ (m:=n1) ⟨(0:Int),hF,R,R⟩
  ·rintro rs L ⟨_,hF,_,_⟩;exact hF
  ·rintro m1 _ _ ⟨t6,hF,rfl,rfl⟩
   replace hF:=W.iter1_s hF
   unfold vz.l1 at hF
   refine At.seq (At.region (At.d R R R R (jk (ja R) (ja R) vg) ?_))
   refine At.done (At.vl (At.seq ?_))
   refine At.cond (ja R) (fun hb9=>?_) (fun hb9=>?_)
   ·replace hF:=W.ite_t hb9 hF
    refine At.skip (At.vl (At.seq (At.block (At.seq (At.region (At.d R R R R (jb (x:=(.tv (kInt .i64) t6)) (ja R)) ?_))))))
    refine At.d R R R R (jd (x:=(.tv (kInt .i64) t6)) (ja R)) ?_
    refine At.done (At.vl (At.seq (At.region (At.d R R R R (jb (x:=(.cls 46 0 (tupl [(.ptr kSegment c1)]))) (ja R)) ?_))))
    refine At.d R R R R (jb (x:=(.tv (kSlice kSegment) s1)) (ja R)) ?_
    refine At.d R R R R (jb (x:=(.tv (kInt .i64) t6)) (ja R)) ?_
    obtain ⟨hq5,hF⟩:=hF
    refine At.d R R R R (vj zSegment (ja R) (ja R) Tryz.underlying27 ty_39 hq5) ?_
    refine At.d R R R R (vw (K:=kSegment) (ja R) ty_39) ?_
    replace hF:=W.vq hF
    refine At.f R (jn R R jp (ent_val0 R (ja R) en_46 (jf (ja R) jg)) (qj.ok hF) (by rintro _ _ ⟨r,_,rfl,_⟩;exact vp)) ?_
    rintro _ _ ⟨_,_,⟨r5,hF,rfl,rfl⟩,rfl,rfl⟩
    refine At.done (At.vl ?_)
    refine At.cond (ja R) (fun hb10=>?_) (fun hb10=>?_)
    ·replace hF:=W.ite_t hb10 hF
     refine At.seq (At.region (At.d R R R R (jb (x:=(.tv (kInt .i64) t6)) (ja R)) ?_))
     refine At.d R R R R (jd (x:=(.tv (kInt .i64) t6)) (ja R)) ?_
     refine At.done (At.vl (At.ret ?_))
     refine At.q ?_
     refine At.vm (At.vm ?_)
     refine At.q ?_
     refine At.vm ?_
     exact At.j rfl (rv_tmp rfl) [] rfl ⟨t6,hF,rfl,rfl⟩
    ·replace hF:=W.ite_f hb10 hF
     refine At.skip ?_
     refine At.n ?_
     refine At.vl (At.region (At.d R R R R (jk (ja R) (ji _ _) vf) ?_))
     refine At.d R R R R (jb (x:=(.tv (kInt .i64) (w64 (t6+(1:Int))))) (ja R)) ?_
     refine At.done (At.vl ?_)
     refine At.w [] R [(0,(.tv (kSlice kSegment) s1)),(1,(.cls 46 0 (tupl [(.ptr kSegment c1)]))),(7,(.tv (kInt .i64) (s1.length:Int))),(8,(.tv (kInt .i64) (w64 (t6+(1:Int)))))] ⟨R,R,R,R,trivial⟩ (At.r ⟨(w64 (t6+(1:Int))),hF,R,R⟩)
   ·replace hF:=W.ite_f hb9 hF
    refine At.exit ?_
    refine At.x (At.x ?_)
    refine At.h ?_
    refine At.vl ?_
    refine At.w [] R [] trivial (At.r ⟨(),hF,R,R⟩)
 ·rintro _ _ ⟨_,hF,rfl,rfl⟩
  unfold vz.c1 at hF
  refine At.seq (At.region (At.d R R R R (jd (x:=(.tv (kInt .i64) (-1:Int))) (ji _ _)) ?_))
  refine At.done (At.vl (At.ret ?_))
  exact At.j rfl (rv_tmp rfl) [] rfl ⟨(-1:Int),hF,rfl,rfl⟩
def Jo.F (s1:(List Segment)) (c1:Segment):W Bool:=W.bind (vz.F s1 c1) (fun r1=>W.ret (decide ((0:Int)≤r1)))
theorem Jo.ok {s1:(List Segment)} {c1:Segment} {Q:Bool→Prop} (hF:Jo.F s1 c1 Q):Con Tryz.prog 45 [.tv (kSlice kSegment) s1,.cls 46 0 (tupl [.ptr kSegment c1])] [] (fun ta rs'=>∃ (r:Bool),Q r∧ta=.tv kBool r∧rs'=[]):=by
 refine Con.i Tryz.func45 Tryz.ntmps45 R R (fun C=>?_)
 unfold Jo.F at hF
 refine At.seq (At.region (At.d R R R R (jd (x:=(.tv kBool false)) (jl _)) ?_))
 refine At.done (At.vl (At.seq (At.region (At.d R R R R (jb (x:=(.tv (kSlice kSegment) s1)) (ja R)) ?_))))
 refine At.d R R R R (jb (x:=(.cls 46 0 (tupl [(.ptr kSegment c1)]))) (ja R)) ?_
 replace hF:=W.vq hF
 refine At.f R (jn R R jp (jq R en_74 (jf (ja R) (jf (ja R) jg))) (vz.ok hF) (by rintro _ _ ⟨r,_,rfl,_⟩;exact flat_int)) ?_
 rintro _ _ ⟨_,_,⟨r1,hF,rfl,rfl⟩,rfl,rfl⟩
 refine At.d R R R R (jk (ja R) (ji _ _) bin_geq) ?_
 refine At.d R R R R (jd (x:=(.tv kBool (decide ((0:Int)≤r1)))) (ja R)) ?_
 refine At.done (At.vl (At.ret ?_))
 exact At.j rfl (rv_tmp rfl) [] rfl ⟨(decide ((0:Int)≤r1)),hF,rfl,rfl⟩
def yl.F (m1:Map) (s1:Segment):W Bool:=W.bind (qu.F m1) (fun r1=>W.ite (((!r1.2)||(decide ((iMin [s1.A.X,s1.A.Y,s1.B.X,s1.B.Y])<(-2097152:Int))))||(decide ((2097152:Int)<(iMax [s1.A.X,s1.A.Y,s1.B.X,s1.B.Y])))) (W.ret false) (W.bind (Jd.F r1.1) (fun r2=>W.bind (Jj.F r1.1 r2) (fun r3=>W.bind (Jo.F r3 s1) (fun r4=>W.ret (!r4))))))
theorem yl.ok {m1:Map} {s1:Segment} {Q:Bool→Prop} (hF:yl.F m1 s1 Q):Con Tryz.prog 18 [.tv kMap m1,.tv kSegment s1] [] (fun ta rs'=>∃ (r:Bool),Q r∧ta=.tv kBool r∧rs'=[]):=by
 refine Con.i Tryz.func18 Tryz.ntmps18 R R (fun C=>?_)
 unfold yl.F at hF
 refine At.seq (At.region (At.f R (jy R R R (ja R)) ?_))
 rintro _ _ ⟨g1,rfl,rfl⟩
 refine At.f R (jy R R R (ja R)) ?_
 rintro _ _ ⟨g2,rfl,rfl⟩
 refine At.d R R R R (jd (x:=(.tv kBool false)) (jl _)) ?_
 refine At.done (At.vl (At.seq (At.region (At.d R R R R (jc (ja R) 1 R (Sub.self kMap) ty_24) ?_))))
 replace hF:=W.vq hF
 refine At.f R (jo R R (jq R en_30 (jf (ja R) jg)) [] R (qu.ok hF)) ?_
 rintro _ _ ⟨_,_,⟨r1,hF,rfl,rfl⟩,rfl,rfl⟩
 refine At.d R R R R (jb (x:=(.tup2 (.tv Jy r1.1) (.tv kBool r1.2))) (ja R)) ?_
 refine At.d R R R R (does_extract20 (ja R)) ?_
 refine At.d R R R R (does_extract21 (ja R)) ?_
 refine At.f R (eff_alloc R R R tz_76) ?_
 rintro _ _ ⟨g3,rfl,rfl⟩
 refine At.f R (jz R R (ja R) 0 R (Sub.self Jy) ty_76 (ja R)) ?_
 rintro _ _ ⟨rfl,rfl⟩
 refine At.d R R R R (jd (x:=(.tv kBool r1.2)) (ja R)) ?_
 refine At.done (At.vl (At.seq (At.seq (At.region (At.d R R R R (jb (x:=(.tv kBool r1.2)) (ja R)) ?_)))))
 refine At.d R R R R (ve (ja R)) ?_
 refine At.d R R R R (jb (x:=(.tv kBool (!r1.2))) (ja R)) ?_
 refine At.vn R R R R (jx R) R (fun hg1=>(je (ja R) Vx)) ?_
 refine At.vn R R R R (jx R) R (fun hg2=>(je (jh R hg2) wa)) ?_
 refine At.vn R R R R (jx R) R (fun hg3=>(jc (jh R hg3) 1 R wz ty_3)) ?_
 refine At.vn R R R R (jx R) R (fun hg4=>(je (ja R) Vx)) ?_
 refine At.vn R R R R (jx R) R (fun hg5=>(je (jh R hg5) yt)) ?_
 refine At.vn R R R R (jx R) R (fun hg6=>(jc (jh R hg6) 1 R sub_Segment_0_1 ty_3)) ?_
 refine At.vn R R R R (jx R) R (fun hg7=>(je (ja R) qb)) ?_
 refine At.vn R R R R (jx R) R (fun hg8=>(je (jh R hg8) wa)) ?_
 refine At.vn R R R R (jx R) R (fun hg9=>(jc (jh R hg9) 1 R wv ty_3)) ?_
 refine At.vn R R R R (jx R) R (fun hg10=>(je (ja R) qb)) ?_
 refine At.vn R R R R (jx R) R (fun hg11=>(je (jh R hg11) yt)) ?_
 refine At.vn R R R R (jx R) R (fun hg12=>(jc (jh R hg12) 1 R sub_Segment_1_1 ty_3)) ?_
 refine At.vn R R R R (jx R) R (fun hg13=>(does_mins (n:=s1.A.X) (ns:=[s1.A.Y,s1.B.X,s1.B.Y]) (jf (jh R hg13) (jf (jh R hg13) (jf (jh R hg13) (jf (jh R hg13) jg)))))) ?_
 refine At.vn R R R R (jx R) R (fun hg14=>(jk (jh R hg14) (ji _ _) vg)) ?_
 refine At.d R R R R (jm (ja R) (jl _) (ja R) vi) ?_
 refine At.d R R R R (jb (x:=(.tv kBool ((!r1.2)||(decide ((iMin [s1.A.X,s1.A.Y,s1.B.X,s1.B.Y])<(-2097152:Int)))))) (ja R)) ?_
 refine At.vn R R R R (jx R) R (fun hg15=>(je (ja R) Vx)) ?_
 refine At.vn R R R R (jx R) R (fun hg16=>(je (jh R hg16) wa)) ?_
 refine At.vn R R R R (jx R) R (fun hg17=>(jc (jh R hg17) 1 R wz ty_3)) ?_
 refine At.vn R R R R (jx R) R (fun hg18=>(je (ja R) Vx)) ?_
 refine At.vn R R R R (jx R) R (fun hg19=>(je (jh R hg19) yt)) ?_
 refine At.vn R R R R (jx R) R (fun hg20=>(jc (jh R hg20) 1 R sub_Segment_0_1 ty_3)) ?_
 refine At.vn R R R R (jx R) R (fun hg21=>(je (ja R) qb)) ?_
 refine At.vn R R R R (jx R) R (fun hg22=>(je (jh R hg22) wa)) ?_
 refine At.vn R R R R (jx R) R (fun hg23=>(jc (jh R hg23) 1 R wv ty_3)) ?_
 refine At.vn R R R R (jx R) R (fun hg24=>(je (ja R) qb)) ?_
 refine At.vn R R R R (jx R) R (fun hg25=>(je (jh R hg25) yt)) ?_
 refine At.vn R R R R (jx R) R (fun hg26=>(jc (jh R hg26) 1 R sub_Segment_1_1 ty_3)) ?_
 refine At.vn R R R R (jx R) R (fun hg27=>(does_maxs (n:=s1.A.X) (ns:=[s1.A.Y,s1.B.X,s1.B.Y]) (jf (jh R hg27) (jf (jh R hg27) (jf (jh R hg27) (jf (jh R hg27) jg)))))) ?_
 refine At.vn R R R R (jx R) R (fun hg28=>(jk (jh R hg28) (ji _ _) bin_gtr)) ?_
 refine At.d R R R R (jm (ja R) (jl _) (ja R) vi) ?_
 refine At.done (At.vl ?_)
 refine At.cond (ja R) (fun hb1=>?_) (fun hb1=>?_)
 ·replace hF:=W.ite_t hb1 hF
  refine At.seq (At.region (At.d R R R R (jd (x:=(.tv kBool false)) (jl _)) ?_))
  refine At.done (At.vl (At.ret (At.vm ?_)))
  exact At.j rfl (rv_tmp rfl) [] rfl ⟨false,hF,rfl,rfl⟩
 ·replace hF:=W.ite_f hb1 hF
  refine At.skip (At.vl (At.seq ?_))
  refine At.draw mixed [0,1,2] R [[],[],[]] (fun φ w hgd=>?_)
  replace hF:=W.vq hF
  refine AtH.take [0,1,2] hgd 0 R R R R (D':=#[Y,N,N,N,N,N,N,N]) (by kernel_rfl) (fun _ _ _ _ h=>h) R (jc (ja R) 0 R (Sub.self Jy) ty_76) ?_
  refine AtH.take [0,1,2] hgd 1 R R R R (D':=#[Y,Y,N,N,N,N,N,N]) (by kernel_rfl) (fun _ _ _ _ h=>h) R (jc (ja R) 0 R (Sub.self Jy) ty_76) ?_
  refine AtH.take [0,1,2] hgd 4 R R R R (D':=#[Y,Y,N,N,Y,N,N,N]) (by kernel_rfl) (fun _ _ _ _ h=>h) R (does_cls (firsts:=[]) (caps:=[.tmp 3]) R (jf (ja R) jg)) ?_
  refine AtH.all1 2 (by kernel_rfl) ?_
  refine AtH.f [(0,0),(1,1),(2,2)] R R R R R R (jo R R (jq R en_31 (jf (ja R) jg)) [] R (Jd.ok hF)) (D':=#[Y,Y,Y,N,Y,N,N,N]) (by kernel_rfl) (by kernel_rfl) ?_
  rintro _ _ ⟨_,_,⟨r2,v3,hF,rfl,rfl⟩,rfl,rfl⟩
  refine ⟨.any,.inl R,?_⟩
  replace hF:=W.vq hF
  refine AtH.all1 3 (by kernel_rfl) ?_
  refine AtH.freeze 0 48 R R ?_
  refine AtH.f [(0,1),(1,2),(2,3)] R R R R R R (jo R R (jq R en_32 (jf (ja R) (jf (ja R) jg))) [] R (Jj.ok hF)) (D':=#[Y,Y,Y,Y,Y,N,N,N]) (by kernel_rfl) (by kernel_rfl) ?_
  rintro _ _ ⟨_,_,⟨r3,v4,hF,rfl,rfl⟩,rfl,rfl⟩
  refine ⟨.any,.inl R,?_⟩
  replace hF:=W.vq hF
  refine AtH.all1 5 (by kernel_rfl) ?_
  refine AtH.f [(0,2),(1,3),(2,4)] R R R R R R (jn R R (lends_row 0 49 R R (lends_box 3 50 R R (lend1_cls (lend1_here lend1_ptr)) jp)) (jq R en_45 (jf (ja R) (jf (ja R) jg))) (Jo.ok hF) (by rintro _ _ ⟨r,_,rfl,_⟩;exact vp)) (D':=#[Y,Y,Y,Y,Y,Y,N,N]) (by kernel_rfl) (by kernel_rfl) ?_
  rintro _ _ ⟨_,_,⟨r4,hF,rfl,rfl⟩,rfl,rfl⟩
  refine ⟨_,.inr ⟨R,vp⟩,?_⟩
  refine AtH.take [0,1,2] hgd 6 R R R R (D':=#[Y,Y,Y,Y,Y,Y,Y,N]) (by kernel_rfl) (fun _ _ _ _ h=>h) R (ve (ja R)) ?_
  refine AtH.take [0,1,2] hgd 7 R R R R (D':=#[Y,Y,Y,Y,Y,Y,Y,Y]) (by kernel_rfl) (fun _ _ _ _ h=>h) R (jd (x:=(.tv kBool (!r4))) (ja R)) ?_
  refine AtH.done (by kernel_rfl) ?_
  refine At.vl (At.ret ?_)
  exact At.j rfl (rv_tmp rfl) [] rfl ⟨(!r4),hF,rfl,rfl⟩
def yc.F (id1:BA) (x1:Int) (y1:Int):W Object:=W.ret (⟨id1,(1:Int),(⟨x1,y1⟩:Point),([]:List BA),([]:List Tag)⟩:Object)
theorem yc.ok {id1:BA} {x1:Int} {y1:Int} {Q:Object→Prop} (hF:yc.F id1 x1 y1 Q):Con Tryz.prog 64 [.tv kStr id1,.tv (kInt .i64) x1,.tv (kInt .i64) y1] [] (fun ta rs'=>∃ (r:Object),Q r∧ta=.tv kObject r∧rs'=[]):=by
 refine Con.i Tryz.func64 Tryz.ntmps64 R R (fun C=>?_)
 unfold yc.F at hF
 refine At.seq (At.region (At.f R (eff_alloc R R R tz_59) ?_))
 rintro _ _ ⟨g1,rfl,rfl⟩
 refine At.done (At.vl (At.seq (At.region (At.d R R R R (jb (x:=(.tv kStr id1)) (ja R)) ?_))))
 refine At.d R R R R (jb (x:=(.tv (kInt .i64) x1)) (ja R)) ?_
 refine At.d R R R R (jb (x:=(.tv (kInt .i64) y1)) (ja R)) ?_
 refine At.d R R R R (vd (jr (ja R) (jr (ja R) js)) zr_37 bd_37 R (fills_cons R Vv (fills_cons R qf fills_nil))) ?_
 refine At.d R R R R (vd (jr (ja R) (jr (ji _ _) (jr (ja R) js))) zr_59 bd_59 R (fills_cons R qo (fills_cons R qt (fills_cons R ja1 fills_nil)))) ?_
 refine At.f R (jz R R (ja R) 0 R (Sub.self kObject) ty_59 (ja R)) ?_
 rintro _ _ ⟨rfl,rfl⟩
 refine At.done (At.vl (At.ret ?_))
 exact At.j rfl (rv_cell rfl 0 rfl ty_59) [] rfl ⟨(⟨id1,(1:Int),(⟨x1,y1⟩:Point),([]:List BA),([]:List Tag)⟩:Object),hF,rfl,rfl⟩
def qi.F (ways1:(List Object)):W Map:=W.bind (yc.F (⟨#[97]⟩:BA) (0:Int) (0:Int)) (fun r1=>W.bind (yc.F (⟨#[98]⟩:BA) (4:Int) (4:Int)) (fun r2=>W.bind (yc.F (⟨#[99]⟩:BA) (0:Int) (4:Int)) (fun r3=>W.bind (yc.F (⟨#[100]⟩:BA) (4:Int) (0:Int)) (fun r4=>W.req ((([r1,r2,r3,r4]:List Object).length+ways1.length)*88≤140737488355328∧([r1,r2,r3,r4]:List Object).length+ways1.length≤140737488355328) (W.ret (⟨(([r1,r2,r3,r4]:List Object)++ways1)⟩:Map))))))
theorem qi.ok {ways1:(List Object)} {Q:Map→Prop} (hF:qi.F ways1 Q):Con Tryz.prog 28 [.tv (kSlice kObject) ways1] [] (fun ta rs'=>∃ (r:Map),Q r∧ta=.tv kMap r∧rs'=[]):=by
 refine Con.i Tryz.func28 Tryz.ntmps28 R R (fun C=>?_)
 unfold qi.F at hF
 refine At.seq (At.region (At.f R (eff_alloc R R R tz_24) ?_))
 rintro _ _ ⟨g1,rfl,rfl⟩
 refine At.done (At.vl (At.seq (At.region ?_)))
 replace hF:=W.vq hF
 refine At.f R (jo R R (jq R en_64 (jf (vk _) (jf (ji _ _) (jf (ji _ _) jg)))) [] R (yc.ok hF)) ?_
 rintro _ _ ⟨_,_,⟨r1,hF,rfl,rfl⟩,rfl,rfl⟩
 replace hF:=W.vq hF
 refine At.f R (jo R R (jq R en_64 (jf (vk _) (jf (ji _ _) (jf (ji _ _) jg)))) [] R (yc.ok hF)) ?_
 rintro _ _ ⟨_,_,⟨r2,hF,rfl,rfl⟩,rfl,rfl⟩
 replace hF:=W.vq hF
 refine At.f R (jo R R (jq R en_64 (jf (vk _) (jf (ji _ _) (jf (ji _ _) jg)))) [] R (yc.ok hF)) ?_
 rintro _ _ ⟨_,_,⟨r3,hF,rfl,rfl⟩,rfl,rfl⟩
 replace hF:=W.vq hF
 refine At.f R (jo R R (jq R en_64 (jf (vk _) (jf (ji _ _) (jf (ji _ _) jg)))) [] R (yc.ok hF)) ?_
 rintro _ _ ⟨_,_,⟨r4,hF,rfl,rfl⟩,rfl,rfl⟩
 refine At.f R (vc R R R (os:=[.tmp 4,.tmp 5,.tmp 6,.tmp 7]) R sl_22 (xs:=([r1,r2,r3,r4]:List Object)) (jf (ja R) (jf (ja R) (jf (ja R) (jf (ja R) jg)))) R R) ?_
 rintro _ _ ⟨v1,rfl,rfl⟩
 refine At.d R R R R (jd (x:=(.eq v1)) (ja R)) ?_
 refine At.done (At.vl (At.seq (At.region (At.d R R R R (jb (x:=(.eq v1)) (ja R)) ?_))))
 refine At.d R R R R (jb (x:=(.tv (kSlice kObject) ways1)) (ja R)) ?_
 obtain ⟨hq1,hF⟩:=hF
 refine At.f R (eff_append_view R R R 0 R (ja R) (ja R) sl_22 hq1) ?_
 rintro _ _ ⟨v2,rfl,rfl⟩
 refine At.freeze 0 11 R R ?_
 refine At.d R R R R (vd (jr (ja R) js) zr_24 bd_24 R (fills_cons R qw fills_nil)) ?_
 refine At.f R (jz R R (ja R) 1 R (Sub.self kMap) ty_24 (ja R)) ?_
 rintro _ _ ⟨rfl,rfl⟩
 refine At.done (At.vl (At.ret ?_))
 exact At.j rfl (rv_cell rfl 1 rfl ty_24) [] rfl ⟨(⟨(([r1,r2,r3,r4]:List Object)++ways1)⟩:Map),hF,rfl,rfl⟩
def qe.F (id1:BA) (refs1:(List BA)):W Object:=W.ret (⟨id1,(2:Int),zPoint,refs1,([]:List Tag)⟩:Object)
theorem qe.ok {id1:BA} {refs1:(List BA)} {Q:Object→Prop} (hF:qe.F id1 refs1 Q):Con Tryz.prog 27 [.tv kStr id1,.tv (kSlice kStr) refs1] [] (fun ta rs'=>∃ (r:Object),Q r∧ta=.tv kObject r∧rs'=[]):=by
 refine Con.i Tryz.func27 Tryz.ntmps27 R R (fun C=>?_)
 unfold qe.F at hF
 refine At.seq (At.region (At.f R (eff_alloc R R R tz_59) ?_))
 rintro _ _ ⟨g1,rfl,rfl⟩
 refine At.done (At.vl (At.seq (At.region (At.d R R R R (jb (x:=(.tv kStr id1)) (ja R)) ?_))))
 refine At.d R R R R (jb (x:=(.tv (kSlice kStr) refs1)) (ja R)) ?_
 refine At.d R R R R (vd (jr (ja R) (jr (ji _ _) (jr (ja R) js))) zr_59 bd_59 R (fills_cons R qo (fills_cons R qt (fills_cons R qh fills_nil)))) ?_
 refine At.f R (jz R R (ja R) 0 R (Sub.self kObject) ty_59 (ja R)) ?_
 rintro _ _ ⟨rfl,rfl⟩
 refine At.done (At.vl (At.ret ?_))
 exact At.j rfl (rv_cell rfl 0 rfl ty_59) [] rfl ⟨(⟨id1,(2:Int),zPoint,refs1,([]:List Tag)⟩:Object),hF,rfl,rfl⟩
def qd.c1 (a1:(List BA)) (b1:(List BA)):W Bool:=W.ret (decide ((a1.length:Int)<(b1.length:Int)))
def qd.l1 (a1:(List BA)) (b1:(List BA)) (K1:W Bool) (A1:Int→W Bool) (i6:Int):W Bool:=W.ite ((decide (i6<(a1.length:Int)))&&(decide (i6<(b1.length:Int)))) (W.req (0≤i6∧i6<(a1.length:Int)) (W.req (0≤i6∧i6<(b1.length:Int)) (W.ite (!(sEq (rd (⟨#[]⟩:BA) a1 i6) (rd (⟨#[]⟩:BA) b1 i6))) (W.req (0≤i6∧i6<(a1.length:Int)) (W.req (0≤i6∧i6<(b1.length:Int)) (W.ret (sLt (rd (⟨#[]⟩:BA) a1 i6) (rd (⟨#[]⟩:BA) b1 i6))))) (A1 (w64 (i6+(1:Int))))))) (K1)
def qd.F (a1:(List BA)) (b1:(List BA)):W Bool:=W.ex fun n=>W.iter1 (qd.l1 a1 b1 (qd.c1 a1 b1)) n (0:Int)
theorem qd.ok {a1:(List BA)} {b1:(List BA)} {Q:Bool→Prop} (hF:qd.F a1 b1 Q):Con Tryz.prog 21 [.tv (kSlice kStr) a1,.tv (kSlice kStr) b1] [] (fun ta rs'=>∃ (r:Bool),Q r∧ta=.tv kBool r∧rs'=[]):=by
 refine Con.i Tryz.func21 Tryz.ntmps21 R R (fun C=>?_)
 unfold qd.F at hF
 refine At.seq (At.region (At.d R R R R (jd (x:=(.tv kBool false)) (jl _)) ?_))
 refine At.done (At.vl ?_)
 refine At.cut (fun rs L=>∃ _:Unit,qd.c1 a1 b1 Q∧rs=[]∧L=mkL [(0,(.tv (kSlice kStr) a1)),(1,(.tv (kSlice kStr) b1))]) ?_ ?_
 ·refine At.seq (At.region (At.d R R R R (jd (x:=(.tv (kInt .i64) (0:Int))) (ji _ _)) ?_))
  refine At.done (At.vl (At.block ?_))
  obtain ⟨n1,hF⟩:=hF
  refine At.w [] R [(0,(.tv (kSlice kStr) a1)),(1,(.tv (kSlice kStr) b1)),(5,(.tv (kInt .i64) (0:Int)))] ⟨R,R,R,trivial⟩ ?_
  refine At.loop (fun m rs L=>∃ (i6:Int),W.iter1 (qd.l1 a1 b1 (qd.c1 a1 b1)) m i6 Q∧rs=[]∧L=mkL [(0,(.tv (kSlice kStr) a1)),(1,(.tv (kSlice kStr) b1)),(5,(.tv (kInt .i64) i6))]) ?_ ?_ (m:=n1) ⟨(0:Int),hF,R,R⟩
  ·rintro rs L ⟨_,hF,_,_⟩;exact hF
  ·rintro m1 _ _ ⟨i6,hF,rfl,rfl⟩
   replace hF:=W.iter1_s hF
   unfold qd.l1 at hF
   refine At.seq (At.seq (At.region (At.d R R R R (jb (x:=(.tv (kInt .i64) i6)) (ja R)) ?_)))
   refine At.d R R R R (jb (x:=(.tv (kSlice kStr) a1)) (ja R)) ?_
   refine At.d R R R R (jt (ja R) Tryz.underlying41) ?_
   refine At.d R R R R (jk (ja R) (ja R) vg) ?_
   refine At.d R R R R (jb (x:=(.tv kBool (decide (i6<(a1.length:Int))))) (ja R)) ?_
   refine At.vn R R R R (jw R) R (fun hg17=>(jb (x:=(.tv (kInt .i64) i6)) (ja R))) ?_
   refine At.vn R R R R (jw R) R (fun hg18=>(jb (x:=(.tv (kSlice kStr) b1)) (ja R))) ?_
   refine At.vn R R R R (jw R) R (fun hg19=>(jt (jh R hg19) Tryz.underlying41)) ?_
   refine At.vn R R R R (jw R) R (fun hg20=>(jk (jh R hg20) (jh R hg20) vg)) ?_
   refine At.d R R R R (jm (ja R) (ja R) (jl _) vh) ?_
   refine At.done (At.vl ?_)
   refine At.cond (ja R) (fun hb9=>?_) (fun hb9=>?_)
   ·replace hF:=W.ite_t hb9 hF
    refine At.skip (At.vl (At.seq (At.block (At.seq ?_))))
    refine At.draw mixed [] R [] (fun φ w hgd=>?_)
    obtain ⟨hq17,hF⟩:=hF
    obtain ⟨hq18,hF⟩:=hF
    refine AtH.take [] hgd 0 R R R R (D':=#[Y,N,N,N,N,N,N,N,N]) (by kernel_rfl) (fun _ _ _ _ h=>h) R (jb (x:=(.tv (kSlice kStr) a1)) (ja R)) ?_
    refine AtH.take [] hgd 1 R R R R (D':=#[Y,Y,N,N,N,N,N,N,N]) (by kernel_rfl) (fun _ _ _ _ h=>h) R (jb (x:=(.tv (kInt .i64) i6)) (ja R)) ?_
    refine AtH.take [] hgd 2 R R R R (D':=#[Y,Y,Y,N,N,N,N,N,N]) (by kernel_rfl) (fun _ _ _ _ h=>h) R (vj (⟨#[]⟩:BA) (ja R) (ja R) Tryz.underlying41 ty_9 hq17) ?_
    refine AtH.take [] hgd 3 R R R R (D':=#[Y,Y,Y,Y,N,N,N,N,N]) (by kernel_rfl) (fun _ _ _ _ h=>h) R (vw (K:=kStr) (ja R) ty_9) ?_
    refine AtH.take [] hgd 4 R R R R (D':=#[Y,Y,Y,Y,Y,N,N,N,N]) (by kernel_rfl) (fun _ _ _ _ h=>h) R (jb (x:=(.tv (kSlice kStr) b1)) (ja R)) ?_
    refine AtH.take [] hgd 5 R R R R (D':=#[Y,Y,Y,Y,Y,Y,N,N,N]) (by kernel_rfl) (fun _ _ _ _ h=>h) R (jb (x:=(.tv (kInt .i64) i6)) (ja R)) ?_
    refine AtH.take [] hgd 6 R R R R (D':=#[Y,Y,Y,Y,Y,Y,Y,N,N]) (by kernel_rfl) (fun _ _ _ _ h=>h) R (vj (⟨#[]⟩:BA) (ja R) (ja R) Tryz.underlying41 ty_9 hq18) ?_
    refine AtH.take [] hgd 7 R R R R (D':=#[Y,Y,Y,Y,Y,Y,Y,Y,N]) (by kernel_rfl) (fun _ _ _ _ h=>h) R (vw (K:=kStr) (ja R) ty_9) ?_
    refine AtH.take [] hgd 8 R R R R (D':=#[Y,Y,Y,Y,Y,Y,Y,Y,Y]) (by kernel_rfl) (fun _ _ _ _ h=>h) R (jk (ja R) (ja R) bin_sneq) ?_
    refine AtH.done (by kernel_rfl) ?_
    refine At.vl ?_
    refine At.cond (ja R) (fun hb10=>?_) (fun hb10=>?_)
    ·replace hF:=W.ite_t hb10 hF
     refine At.seq ?_
     refine At.draw mixed [] R [] (fun φ w hgd=>?_)
     obtain ⟨hq19,hF⟩:=hF
     obtain ⟨hq20,hF⟩:=hF
     refine AtH.take [] hgd 0 R R R R (D':=#[Y,N,N,N,N,N,N,N,N,N]) (by kernel_rfl) (fun _ _ _ _ h=>h) R (jb (x:=(.tv (kSlice kStr) a1)) (ja R)) ?_
     refine AtH.take [] hgd 1 R R R R (D':=#[Y,Y,N,N,N,N,N,N,N,N]) (by kernel_rfl) (fun _ _ _ _ h=>h) R (jb (x:=(.tv (kInt .i64) i6)) (ja R)) ?_
     refine AtH.take [] hgd 2 R R R R (D':=#[Y,Y,Y,N,N,N,N,N,N,N]) (by kernel_rfl) (fun _ _ _ _ h=>h) R (vj (⟨#[]⟩:BA) (ja R) (ja R) Tryz.underlying41 ty_9 hq19) ?_
     refine AtH.take [] hgd 3 R R R R (D':=#[Y,Y,Y,Y,N,N,N,N,N,N]) (by kernel_rfl) (fun _ _ _ _ h=>h) R (vw (K:=kStr) (ja R) ty_9) ?_
     refine AtH.take [] hgd 4 R R R R (D':=#[Y,Y,Y,Y,Y,N,N,N,N,N]) (by kernel_rfl) (fun _ _ _ _ h=>h) R (jb (x:=(.tv (kSlice kStr) b1)) (ja R)) ?_
     refine AtH.take [] hgd 5 R R R R (D':=#[Y,Y,Y,Y,Y,Y,N,N,N,N]) (by kernel_rfl) (fun _ _ _ _ h=>h) R (jb (x:=(.tv (kInt .i64) i6)) (ja R)) ?_
     refine AtH.take [] hgd 6 R R R R (D':=#[Y,Y,Y,Y,Y,Y,Y,N,N,N]) (by kernel_rfl) (fun _ _ _ _ h=>h) R (vj (⟨#[]⟩:BA) (ja R) (ja R) Tryz.underlying41 ty_9 hq20) ?_
     refine AtH.take [] hgd 7 R R R R (D':=#[Y,Y,Y,Y,Y,Y,Y,Y,N,N]) (by kernel_rfl) (fun _ _ _ _ h=>h) R (vw (K:=kStr) (ja R) ty_9) ?_
     refine AtH.take [] hgd 8 R R R R (D':=#[Y,Y,Y,Y,Y,Y,Y,Y,Y,N]) (by kernel_rfl) (fun _ _ _ _ h=>h) R (jk (ja R) (ja R) bin_slss) ?_
     refine AtH.take [] hgd 9 R R R R (D':=#[Y,Y,Y,Y,Y,Y,Y,Y,Y,Y]) (by kernel_rfl) (fun _ _ _ _ h=>h) R (jd (x:=(.tv kBool (sLt (rd (⟨#[]⟩:BA) a1 i6) (rd (⟨#[]⟩:BA) b1 i6)))) (ja R)) ?_
     refine AtH.done (by kernel_rfl) ?_
     refine At.vl (At.ret ?_)
     refine At.q ?_
     refine At.vm (At.vm ?_)
     refine At.q ?_
     refine At.vm ?_
     exact At.j rfl (rv_tmp rfl) [] rfl ⟨(sLt (rd (⟨#[]⟩:BA) a1 i6) (rd (⟨#[]⟩:BA) b1 i6)),hF,rfl,rfl⟩
    ·replace hF:=W.ite_f hb10 hF
     refine At.skip ?_
     refine At.n ?_
     refine At.vl (At.region (At.d R R R R (jb (x:=(.tv (kInt .i64) i6)) (ja R)) ?_))
     refine At.d R R R R (jk (ja R) (ji _ _) vf) ?_
     refine At.d R R R R (jd (x:=(.tv (kInt .i64) (w64 (i6+(1:Int))))) (ja R)) ?_
     refine At.done (At.vl ?_)
     refine At.w [] R [(0,(.tv (kSlice kStr) a1)),(1,(.tv (kSlice kStr) b1)),(5,(.tv (kInt .i64) (w64 (i6+(1:Int)))))] ⟨R,R,R,trivial⟩ (At.r ⟨(w64 (i6+(1:Int))),hF,R,R⟩)
   ·replace hF:=W.ite_f hb9 hF
    refine At.exit ?_
    refine At.x (At.x ?_)
    refine At.h ?_
    refine At.vl ?_
    refine At.w [] R [(0,(.tv (kSlice kStr) a1)),(1,(.tv (kSlice kStr) b1))] ⟨R,R,trivial⟩ (At.r ⟨(),hF,R,R⟩)
 ·rintro _ _ ⟨_,hF,rfl,rfl⟩
  unfold qd.c1 at hF
  refine At.seq (At.region (At.d R R R R (jb (x:=(.tv (kSlice kStr) a1)) (ja R)) ?_))
  refine At.d R R R R (jt (ja R) Tryz.underlying41) ?_
  refine At.d R R R R (jb (x:=(.tv (kSlice kStr) b1)) (ja R)) ?_
  refine At.d R R R R (jt (ja R) Tryz.underlying41) ?_
  refine At.d R R R R (jk (ja R) (ja R) vg) ?_
  refine At.d R R R R (jd (x:=(.tv kBool (decide ((a1.length:Int)<(b1.length:Int))))) (ja R)) ?_
  refine At.done (At.vl (At.ret ?_))
  exact At.j rfl (rv_tmp rfl) [] rfl ⟨(decide ((a1.length:Int)<(b1.length:Int))),hF,rfl,rfl⟩
def zo.F (a1:(List BA)) (b1:(List BA)):W Bool:=W.bind (qd.F a1 b1) (fun r1=>W.bind (W.ite (!r1) (qd.F b1 a1) (W.ret false)) (fun r2=>W.ret ((!r1)&&(!r2))))
theorem zo.ok {a1:(List BA)} {b1:(List BA)} {Q:Bool→Prop} (hF:zo.F a1 b1 Q):Con Tryz.prog 29 [.tv (kSlice kStr) a1,.tv (kSlice kStr) b1] [] (fun ta rs'=>∃ (r:Bool),Q r∧ta=.tv kBool r∧rs'=[]):=by
 refine Con.i Tryz.func29 Tryz.ntmps29 R R (fun C=>?_)
 unfold zo.F at hF
 refine At.seq (At.region (At.d R R R R (jd (x:=(.tv kBool false)) (jl _)) ?_))
 refine At.done (At.vl (At.seq (At.region (At.d R R R R (jb (x:=(.tv (kSlice kStr) a1)) (ja R)) ?_))))
 refine At.d R R R R (jb (x:=(.tv (kSlice kStr) b1)) (ja R)) ?_
 replace hF:=W.vq hF
 refine At.f R (jn R R jp (jq R en_21 (jf (ja R) (jf (ja R) jg))) (qd.ok hF) (by rintro _ _ ⟨r,_,rfl,_⟩;exact vp)) ?_
 rintro _ _ ⟨_,_,⟨r1,hF,rfl,rfl⟩,rfl,rfl⟩
 refine At.d R R R R (ve (ja R)) ?_
 refine At.d R R R R (jb (x:=(.tv kBool (!r1))) (ja R)) ?_
 refine At.vn R R R R (jw R) R (fun hg1=>(jb (x:=(.tv (kSlice kStr) b1)) (ja R))) ?_
 refine At.vn R R R R (jw R) R (fun hg2=>(jb (x:=(.tv (kSlice kStr) a1)) (ja R))) ?_
 replace hF:=W.vq hF
 refine At.effG R R R R (jw R) hF (fun r=>.tv kBool r) (fun hg3 hF=>vr (jn R R jp (jq R en_21 (jf (jh R hg3) (jf (jh R hg3) jg))) (qd.ok hF) (by rintro _ _ ⟨r,_,rfl,_⟩;exact vp)) (by rintro _ _ ⟨_,_,⟨r,hF,rfl,rfl⟩,rfl,rfl⟩;exact ⟨r,hF,R,R⟩)) (fun r2 hF=>?_)
 refine At.vn R R R R (jw R) R (fun hg4=>(ve (jh R hg4))) ?_
 refine At.d R R R R (jm (ja R) (ja R) (jl _) vh) ?_
 refine At.d R R R R (jd (x:=(.tv kBool ((!r1)&&(!r2)))) (ja R)) ?_
 refine At.done (At.vl (At.ret ?_))
 exact At.j rfl (rv_tmp rfl) [] rfl ⟨((!r1)&&(!r2)),hF,rfl,rfl⟩
def ww.c1 (t1:Bool):W Bool:=W.ret t1
def ww.F:W Bool:=W.bind (qe.F (⟨#[118]⟩:BA) ([(⟨#[97]⟩:BA),(⟨#[98]⟩:BA)]:List BA)) (fun r1=>W.bind (qe.F (⟨#[119]⟩:BA) ([(⟨#[99]⟩:BA),(⟨#[100]⟩:BA)]:List BA)) (fun r2=>W.bind (qi.F ([r1,r2]:List Object)) (fun r3=>W.bind (Jq.F r3) (fun r4=>W.bind (qe.F (⟨#[118]⟩:BA) ([(⟨#[97]⟩:BA),(⟨#[98]⟩:BA)]:List BA)) (fun r5=>W.bind (qe.F (⟨#[119]⟩:BA) ([(⟨#[98]⟩:BA),(⟨#[99]⟩:BA)]:List BA)) (fun r6=>W.bind (qi.F ([r5,r6]:List Object)) (fun r7=>W.bind (Jq.F r7) (fun r8=>W.bind (qe.F (⟨#[118]⟩:BA) ([(⟨#[97]⟩:BA),(⟨#[98]⟩:BA),(⟨#[97]⟩:BA)]:List BA)) (fun r9=>W.bind (qe.F (⟨#[119]⟩:BA) ([(⟨#[98]⟩:BA),(⟨#[97]⟩:BA)]:List BA)) (fun r10=>W.bind (qi.F ([r9,r10]:List Object)) (fun r11=>W.bind (Jq.F r11) (fun r12=>W.bind (qe.F (⟨#[118]⟩:BA) ([(⟨#[97]⟩:BA),(⟨#[98]⟩:BA),(⟨#[97]⟩:BA)]:List BA)) (fun r13=>W.bind (qe.F (⟨#[119]⟩:BA) ([(⟨#[98]⟩:BA),(⟨#[97]⟩:BA)]:List BA)) (fun r14=>W.bind (qi.F ([r13,r14]:List Object)) (fun r15=>W.bind (Vm.F r15) (fun r16=>W.ite ((((r4.length:Int) != (1:Int))||((r16.1.length:Int) != (1:Int)))||((r16.2.length:Int) != (1:Int))) (W.ret false) (W.bind (qe.F (⟨#[118]⟩:BA) ([(⟨#[97]⟩:BA),(⟨#[98]⟩:BA)]:List BA)) (fun r17=>W.bind (qi.F ([r17]:List Object)) (fun r18=>W.bind (yl.F r18 (⟨(⟨(4:Int),(4:Int)⟩:Point),(⟨(9:Int),(0:Int)⟩:Point)⟩:Segment)) (fun r19=>W.req (0≤(0:Int)∧(0:Int)<(r4.length:Int)) (W.req (0≤(0:Int)∧(0:Int)<(r4.length:Int)) (W.bind (zo.F ((rd zViolation r4 (0:Int)).Ids) ([(⟨#[118]⟩:BA),(⟨#[119]⟩:BA)]:List BA)) (fun r25=>W.req (r25=true→0≤(0:Int)∧(0:Int)<(r4.length:Int)) (W.req (r25=true→0≤(0:Int)∧(0:Int)<(r4.length:Int)) (W.req ((((r25&&(((rd zViolation r4 (0:Int)).Kind)==(2:Int)))&&((r8.length:Int)==(0:Int)))&&((r12.length:Int)==(0:Int)))=true→0≤(0:Int)∧(0:Int)<(r16.2.length:Int)) (W.req ((((r25&&(((rd zViolation r4 (0:Int)).Kind)==(2:Int)))&&((r8.length:Int)==(0:Int)))&&((r12.length:Int)==(0:Int)))=true→0≤(0:Int)∧(0:Int)<(r16.2.length:Int)) (W.ite (((r25&&(((rd zViolation r4 (0:Int)).Kind)==(2:Int)))&&((r8.length:Int)==(0:Int)))&&((r12.length:Int)==(0:Int))) (W.bind (zo.F (rd ([]:List BA) r16.2 (0:Int)) ([(⟨#[118]⟩:BA),(⟨#[119]⟩:BA)]:List BA)) (fun r26=>W.ite (r26&&r19) (W.bind (qe.F (⟨#[118]⟩:BA) ([(⟨#[97]⟩:BA),(⟨#[98]⟩:BA)]:List BA)) (fun r27=>W.bind (qi.F ([r27]:List Object)) (fun r28=>W.bind (yl.F r28 (⟨(⟨(2:Int),(2:Int)⟩:Point),(⟨(9:Int),(0:Int)⟩:Point)⟩:Segment)) (fun r29=>(ww.c1) (!r29))))) ((ww.c1) false))) ((ww.c1) false))))))))))))))))))))))))))))
theorem ww.ok {Q:Bool→Prop} (hF:ww.F Q):Con Tryz.prog 10 [] [] (fun ta rs'=>∃ (r:Bool),Q r∧ta=.tv kBool r∧rs'=[]):=by
 refine Con.i Tryz.func10 Tryz.ntmps10 R R (fun C=>?_)
 unfold ww.F at hF
 refine At.seq (At.region (At.d R R R R (jd (x:=(.tv kBool false)) (jl _)) ?_))
 refine At.done (At.vl (At.seq (At.region (At.f R (vc R R R (os:=[.const (.string (⟨#[97]⟩:BA)),.const (.string (⟨#[98]⟩:BA))]) R sl_41 (xs:=([(⟨#[97]⟩:BA),(⟨#[98]⟩:BA)]:List BA)) (jf (vk _) (jf (vk _) jg)) R R) ?_))))
 rintro _ _ ⟨v1,rfl,rfl⟩
 refine At.freeze 0 7 R R ?_
 replace hF:=W.vq hF
 refine At.f R (jo R R (jq R en_27 (jf (vk _) (jf (ja R) jg))) [] R (qe.ok hF)) ?_
 rintro _ _ ⟨_,_,⟨r1,hF,rfl,rfl⟩,rfl,rfl⟩
 refine At.f R (vc R R R (os:=[.const (.string (⟨#[99]⟩:BA)),.const (.string (⟨#[100]⟩:BA))]) R sl_41 (xs:=([(⟨#[99]⟩:BA),(⟨#[100]⟩:BA)]:List BA)) (jf (vk _) (jf (vk _) jg)) R R) ?_
 rintro _ _ ⟨v2,rfl,rfl⟩
 refine At.freeze 0 9 R R ?_
 replace hF:=W.vq hF
 refine At.f R (jo R R (jq R en_27 (jf (vk _) (jf (ja R) jg))) [] R (qe.ok hF)) ?_
 rintro _ _ ⟨_,_,⟨r2,hF,rfl,rfl⟩,rfl,rfl⟩
 refine At.f R (vc R R R (os:=[.tmp 8,.tmp 10]) R sl_22 (xs:=([r1,r2]:List Object)) (jf (ja R) (jf (ja R) jg)) R R) ?_
 rintro _ _ ⟨v3,rfl,rfl⟩
 refine At.freeze 0 11 R R ?_
 replace hF:=W.vq hF
 refine At.f R (jo R R (jq R en_28 (jf (ja R) jg)) [] R (qi.ok hF)) ?_
 rintro _ _ ⟨_,_,⟨r3,hF,rfl,rfl⟩,rfl,rfl⟩
 replace hF:=W.vq hF
 refine At.f R (jo R R (jq R en_16 (jf (ja R) jg)) [] R (Jq.ok hF)) ?_
 rintro _ _ ⟨_,_,⟨r4,v4,hF,rfl,rfl⟩,rfl,rfl⟩
 refine At.d R R R R (jd (x:=(.eq v4)) (ja R)) ?_
 refine At.done (At.vl (At.seq (At.region (At.f R (vc R R R (os:=[.const (.string (⟨#[97]⟩:BA)),.const (.string (⟨#[98]⟩:BA))]) R sl_41 (xs:=([(⟨#[97]⟩:BA),(⟨#[98]⟩:BA)]:List BA)) (jf (vk _) (jf (vk _) jg)) R R) ?_))))
 rintro _ _ ⟨v5,rfl,rfl⟩
 refine At.freeze 0 14 R R ?_
 replace hF:=W.vq hF
 refine At.f R (jo R R (jq R en_27 (jf (vk _) (jf (ja R) jg))) [] R (qe.ok hF)) ?_
 rintro _ _ ⟨_,_,⟨r5,hF,rfl,rfl⟩,rfl,rfl⟩
 refine At.f R (vc R R R (os:=[.const (.string (⟨#[98]⟩:BA)),.const (.string (⟨#[99]⟩:BA))]) R sl_41 (xs:=([(⟨#[98]⟩:BA),(⟨#[99]⟩:BA)]:List BA)) (jf (vk _) (jf (vk _) jg)) R R) ?_
 rintro _ _ ⟨v6,rfl,rfl⟩
 refine At.freeze 0 16 R R ?_
 replace hF:=W.vq hF
 refine At.f R (jo R R (jq R en_27 (jf (vk _) (jf (ja R) jg))) [] R (qe.ok hF)) ?_
 rintro _ _ ⟨_,_,⟨r6,hF,rfl,rfl⟩,rfl,rfl⟩
 refine At.f R (vc R R R (os:=[.tmp 15,.tmp 17]) R sl_22 (xs:=([r5,r6]:List Object)) (jf (ja R) (jf (ja R) jg)) R R) ?_
 rintro _ _ ⟨v7,rfl,rfl⟩
 refine At.freeze 0 18 R R ?_
 replace hF:=W.vq hF
 refine At.f R (jo R R (jq R en_28 (jf (ja R) jg)) [] R (qi.ok hF)) ?_
 rintro _ _ ⟨_,_,⟨r7,hF,rfl,rfl⟩,rfl,rfl⟩
 replace hF:=W.vq hF
 refine At.f R (jo R R (jq R en_16 (jf (ja R) jg)) [] R (Jq.ok hF)) ?_
 rintro _ _ ⟨_,_,⟨r8,v8,hF,rfl,rfl⟩,rfl,rfl⟩
 refine At.d R R R R (jd (x:=(.eq v8)) (ja R)) ?_
 refine At.done (At.vl (At.seq (At.region (At.f R (vc R R R (os:=[.const (.string (⟨#[97]⟩:BA)),.const (.string (⟨#[98]⟩:BA)),.const (.string (⟨#[97]⟩:BA))]) R sl_41 (xs:=([(⟨#[97]⟩:BA),(⟨#[98]⟩:BA),(⟨#[97]⟩:BA)]:List BA)) (jf (vk _) (jf (vk _) (jf (vk _) jg))) R R) ?_))))
 rintro _ _ ⟨v9,rfl,rfl⟩
 refine At.freeze 0 21 R R ?_
 replace hF:=W.vq hF
 refine At.f R (jo R R (jq R en_27 (jf (vk _) (jf (ja R) jg))) [] R (qe.ok hF)) ?_
 rintro _ _ ⟨_,_,⟨r9,hF,rfl,rfl⟩,rfl,rfl⟩
 refine At.f R (vc R R R (os:=[.const (.string (⟨#[98]⟩:BA)),.const (.string (⟨#[97]⟩:BA))]) R sl_41 (xs:=([(⟨#[98]⟩:BA),(⟨#[97]⟩:BA)]:List BA)) (jf (vk _) (jf (vk _) jg)) R R) ?_
 rintro _ _ ⟨v10,rfl,rfl⟩
 refine At.freeze 0 23 R R ?_
 replace hF:=W.vq hF
 refine At.f R (jo R R (jq R en_27 (jf (vk _) (jf (ja R) jg))) [] R (qe.ok hF)) ?_
 rintro _ _ ⟨_,_,⟨r10,hF,rfl,rfl⟩,rfl,rfl⟩
 refine At.f R (vc R R R (os:=[.tmp 22,.tmp 24]) R sl_22 (xs:=([r9,r10]:List Object)) (jf (ja R) (jf (ja R) jg)) R R) ?_
 rintro _ _ ⟨v11,rfl,rfl⟩
 refine At.freeze 0 25 R R ?_
 replace hF:=W.vq hF
 refine At.f R (jo R R (jq R en_28 (jf (ja R) jg)) [] R (qi.ok hF)) ?_
 rintro _ _ ⟨_,_,⟨r11,hF,rfl,rfl⟩,rfl,rfl⟩
 replace hF:=W.vq hF
 refine At.f R (jo R R (jq R en_16 (jf (ja R) jg)) [] R (Jq.ok hF)) ?_
 rintro _ _ ⟨_,_,⟨r12,v12,hF,rfl,rfl⟩,rfl,rfl⟩
 refine At.d R R R R (jd (x:=(.eq v12)) (ja R)) ?_
 refine At.done (At.vl (At.seq (At.region (At.f R (vc R R R (os:=[.const (.string (⟨#[97]⟩:BA)),.const (.string (⟨#[98]⟩:BA)),.const (.string (⟨#[97]⟩:BA))]) R sl_41 (xs:=([(⟨#[97]⟩:BA),(⟨#[98]⟩:BA),(⟨#[97]⟩:BA)]:List BA)) (jf (vk _) (jf (vk _) (jf (vk _) jg))) R R) ?_))))
 rintro _ _ ⟨v13,rfl,rfl⟩
 refine At.freeze 0 29 R R ?_
 replace hF:=W.vq hF
 refine At.f R (jo R R (jq R en_27 (jf (vk _) (jf (ja R) jg))) [] R (qe.ok hF)) ?_
 rintro _ _ ⟨_,_,⟨r13,hF,rfl,rfl⟩,rfl,rfl⟩
 refine At.f R (vc R R R (os:=[.const (.string (⟨#[98]⟩:BA)),.const (.string (⟨#[97]⟩:BA))]) R sl_41 (xs:=([(⟨#[98]⟩:BA),(⟨#[97]⟩:BA)]:List BA)) (jf (vk _) (jf (vk _) jg)) R R) ?_
 rintro _ _ ⟨v14,rfl,rfl⟩
 refine At.freeze 0 31 R R ?_
 replace hF:=W.vq hF
 refine At.f R (jo R R (jq R en_27 (jf (vk _) (jf (ja R) jg))) [] R (qe.ok hF)) ?_
 rintro _ _ ⟨_,_,⟨r14,hF,rfl,rfl⟩,rfl,rfl⟩
 refine At.f R (vc R R R (os:=[.tmp 30,.tmp 32]) R sl_22 (xs:=([r13,r14]:List Object)) (jf (ja R) (jf (ja R) jg)) R R) ?_
 rintro _ _ ⟨v15,rfl,rfl⟩
 refine At.freeze 0 33 R R ?_
 replace hF:=W.vq hF
 refine At.f R (jo R R (jq R en_28 (jf (ja R) jg)) [] R (qi.ok hF)) ?_
 rintro _ _ ⟨_,_,⟨r15,hF,rfl,rfl⟩,rfl,rfl⟩
 replace hF:=W.vq hF
 refine At.f R (jo R R (jq R en_12 (jf (ja R) jg)) [] R (Vm.ok hF)) ?_
 rintro _ _ ⟨_,_,⟨r16,v16,v17,hF,rfl,rfl⟩,rfl,rfl⟩
 refine At.d R R R R (jb (x:=(.tup2 (.eq v16) (.eq v17))) (ja R)) ?_
 refine At.d R R R R (does_extract20 (ja R)) ?_
 refine At.d R R R R (does_extract21 (ja R)) ?_
 refine At.d R R R R (jd (x:=(.eq v16)) (ja R)) ?_
 refine At.d R R R R (jd (x:=(.eq v17)) (ja R)) ?_
 refine At.done (At.vl (At.seq (At.seq (At.region (At.d R R R R (jb (x:=(.eq v4)) (ja R)) ?_)))))
 refine At.d R R R R (does_len_row (ja R) 13 R Tryz.underlying33) ?_
 refine At.d R R R R (jk (ja R) (ji _ _) bin_neq) ?_
 refine At.d R R R R (jb (x:=(.tv kBool ((r4.length:Int) != (1:Int)))) (ja R)) ?_
 refine At.vn R R R R (jx R) R (fun hg1=>(jb (x:=(.eq v16)) (ja R))) ?_
 refine At.vn R R R R (jx R) R (fun hg2=>(does_len_row (jh R hg2) 0 R Tryz.underlying27)) ?_
 refine At.vn R R R R (jx R) R (fun hg3=>(jk (jh R hg3) (ji _ _) bin_neq)) ?_
 refine At.d R R R R (jm (ja R) (jl _) (ja R) vi) ?_
 refine At.d R R R R (jb (x:=(.tv kBool (((r4.length:Int) != (1:Int))||((r16.1.length:Int) != (1:Int))))) (ja R)) ?_
 refine At.vn R R R R (jx R) R (fun hg4=>(jb (x:=(.eq v17)) (ja R))) ?_
 refine At.vn R R R R (jx R) R (fun hg5=>(does_len_row (jh R hg5) 1 R Tryz.underlying28)) ?_
 refine At.vn R R R R (jx R) R (fun hg6=>(jk (jh R hg6) (ji _ _) bin_neq)) ?_
 refine At.d R R R R (jm (ja R) (jl _) (ja R) vi) ?_
 refine At.done (At.vl ?_)
 refine At.cond (ja R) (fun hb1=>?_) (fun hb1=>?_)
 ·replace hF:=W.ite_t hb1 hF
  refine At.seq (At.region (At.d R R R R (jd (x:=(.tv kBool false)) (jl _)) ?_))
  refine At.done (At.vl (At.ret (At.vm ?_)))
  exact At.j rfl (rv_tmp rfl) [] rfl ⟨false,hF,rfl,rfl⟩
 ·replace hF:=W.ite_f hb1 hF
  refine At.skip (At.vl (At.seq (At.region (At.f R (vc R R R (os:=[.const (.string (⟨#[97]⟩:BA)),.const (.string (⟨#[98]⟩:BA))]) R sl_41 (xs:=([(⟨#[97]⟩:BA),(⟨#[98]⟩:BA)]:List BA)) (jf (vk _) (jf (vk _) jg)) R R) ?_))))
  rintro _ _ ⟨v18,rfl,rfl⟩
  refine At.freeze 0 51 R R ?_
  replace hF:=W.vq hF
  refine At.f R (jo R R (jq R en_27 (jf (vk _) (jf (ja R) jg))) [] R (qe.ok hF)) ?_
  rintro _ _ ⟨_,_,⟨r17,hF,rfl,rfl⟩,rfl,rfl⟩
  refine At.f R (vc R R R (os:=[.tmp 52]) R sl_22 (xs:=([r17]:List Object)) (jf (ja R) jg) R R) ?_
  rintro _ _ ⟨v19,rfl,rfl⟩
  refine At.freeze 0 53 R R ?_
  replace hF:=W.vq hF
  refine At.f R (jo R R (jq R en_28 (jf (ja R) jg)) [] R (qi.ok hF)) ?_
  rintro _ _ ⟨_,_,⟨r18,hF,rfl,rfl⟩,rfl,rfl⟩
  refine At.d R R R R (vd (jr (ji _ _) (jr (ji _ _) js)) zr_37 bd_37 R (fills_cons R Vv (fills_cons R qf fills_nil))) ?_
  refine At.d R R R R (vd (jr (ji _ _) js) zr_37 bd_37 R (fills_cons R Vv fills_nil)) ?_
  refine At.d R R R R (vd (jr (ja R) (jr (ja R) js)) zr_39 bd_39 R (fills_cons R Jf (fills_cons R Jg fills_nil))) ?_
  replace hF:=W.vq hF
  refine At.f R (jn R R jp (jq R en_18 (jf (ja R) (jf (ja R) jg))) (yl.ok hF) (by rintro _ _ ⟨r,_,rfl,_⟩;exact vp)) ?_
  rintro _ _ ⟨_,_,⟨r19,hF,rfl,rfl⟩,rfl,rfl⟩
  refine At.d R R R R (jd (x:=(.tv kBool r19)) (ja R)) ?_
  refine At.done (At.vl ?_)
  refine At.cut (fun rs L=>∃ (t1:Bool),ww.c1 t1 Q∧rs=[]∧L=mkL [(0,(.tv kBool t1))]) ?_ ?_
  ·refine At.region (At.d R R R R (jb (x:=(.eq v4)) (ja R)) ?_)
   obtain ⟨hq7,hF⟩:=hF
   refine At.d R R R R (does_idx_row (ja R) 15 R (ji _ _) Tryz.underlying33 ty_43 hq7) ?_
   refine At.d R R R R (does_field_elem (ja R) fa_43_2) ?_
   obtain ⟨hq8,hF⟩:=hF
   refine At.d R R R R (Jh (ja R) 15 R (0:Int) 2 R zViolation hq8 zj ty_41) ?_
   refine At.f R (vc R R R (os:=[.const (.string (⟨#[118]⟩:BA)),.const (.string (⟨#[119]⟩:BA))]) R sl_41 (xs:=([(⟨#[118]⟩:BA),(⟨#[119]⟩:BA)]:List BA)) (jf (vk _) (jf (vk _) jg)) R R) ?_
   rintro _ _ ⟨v24,rfl,rfl⟩
   replace hF:=W.vq hF
   refine At.f R (jn R R (lends_row 0 63 R R jp) (jq R en_29 (jf (ja R) (jf (ja R) jg))) (zo.ok hF) (by rintro _ _ ⟨r,_,rfl,_⟩;exact vp)) ?_
   rintro _ _ ⟨_,_,⟨r25,hF,rfl,rfl⟩,rfl,rfl⟩
   refine At.d R R R R (jb (x:=(.tv kBool r25)) (ja R)) ?_
   refine At.vn R R R R (jw R) R (fun hg22=>(jb (x:=(.eq v4)) (ja R))) ?_
   obtain ⟨hq9,hF⟩:=hF
   refine At.vn R R R R (jw R) R (fun hg23=>(does_idx_row (jh R hg23) 16 R (ji _ _) Tryz.underlying33 ty_43 (hq9 hg23))) ?_
   refine At.vn R R R R (jw R) R (fun hg24=>(does_field_elem (jh R hg24) fa_43_1)) ?_
   obtain ⟨hq10,hF⟩:=hF
   refine At.vn R R R R (jw R) R (fun hg25=>(Jh (jh R hg25) 16 R (0:Int) 1 R zViolation (hq10 hg25) sub_Violation_1 ty_3)) ?_
   refine At.vn R R R R (jw R) R (fun hg26=>(jk (jh R hg26) (ji _ _) bin_eql)) ?_
   refine At.d R R R R (jm (ja R) (ja R) (jl _) vh) ?_
   refine At.d R R R R (jb (x:=(.tv kBool (r25&&(((rd zViolation r4 (0:Int)).Kind)==(2:Int))))) (ja R)) ?_
   refine At.vn R R R R (jw R) R (fun hg27=>(jb (x:=(.eq v8)) (ja R))) ?_
   refine At.vn R R R R (jw R) R (fun hg28=>(does_len_row (jh R hg28) 12 R Tryz.underlying33)) ?_
   refine At.vn R R R R (jw R) R (fun hg29=>(jk (jh R hg29) (ji _ _) bin_eql)) ?_
   refine At.d R R R R (jm (ja R) (ja R) (jl _) vh) ?_
   refine At.d R R R R (jb (x:=(.tv kBool ((r25&&(((rd zViolation r4 (0:Int)).Kind)==(2:Int)))&&((r8.length:Int)==(0:Int))))) (ja R)) ?_
   refine At.vn R R R R (jw R) R (fun hg30=>(jb (x:=(.eq v12)) (ja R))) ?_
   refine At.vn R R R R (jw R) R (fun hg31=>(does_len_row (jh R hg31) 8 R Tryz.underlying33)) ?_
   refine At.vn R R R R (jw R) R (fun hg32=>(jk (jh R hg32) (ji _ _) bin_eql)) ?_
   refine At.d R R R R (jm (ja R) (ja R) (jl _) vh) ?_
   refine At.d R R R R (jb (x:=(.tv kBool (((r25&&(((rd zViolation r4 (0:Int)).Kind)==(2:Int)))&&((r8.length:Int)==(0:Int)))&&((r12.length:Int)==(0:Int))))) (ja R)) ?_
   refine At.vn R R R R (jw R) R (fun hg33=>(jb (x:=(.eq v17)) (ja R))) ?_
   obtain ⟨hq11,hF⟩:=hF
   refine At.vn R R R R (jw R) R (fun hg34=>(does_idx_row (jh R hg34) 4 R (ji _ _) Tryz.underlying28 ty_41 (hq11 hg34))) ?_
   obtain ⟨hq12,hF⟩:=hF
   refine At.vn R R R R (jw R) R (fun hg35=>(Jh (jh R hg35) 4 R (0:Int) 0 R ([]:List BA) (hq12 hg35) (Sub.self (kSlice kStr)) ty_41)) ?_
   refine At.split (((r25&&(((rd zViolation r4 (0:Int)).Kind)==(2:Int)))&&((r8.length:Int)==(0:Int)))&&((r12.length:Int)==(0:Int))) (fun hb4=>?_) (fun hb4=>?_)
   ·replace hF:=W.ite_t hb4 hF
    refine At.whenT 66 R (and_l (and_l (and_l hb4))) ?_
    refine At.whenT 67 R (and_l (and_l (and_l hb4))) ?_
    refine At.whenT 68 R (and_l (and_l (and_l hb4))) ?_
    refine At.whenT 69 R (and_l (and_l (and_l hb4))) ?_
    refine At.whenT 70 R (and_l (and_l (and_l hb4))) ?_
    refine At.whenT 73 R (and_l (and_l hb4)) ?_
    refine At.whenT 74 R (and_l (and_l hb4)) ?_
    refine At.whenT 75 R (and_l (and_l hb4)) ?_
    refine At.whenT 78 R (and_l hb4) ?_
    refine At.whenT 79 R (and_l hb4) ?_
    refine At.whenT 80 R (and_l hb4) ?_
    refine At.whenT 83 R hb4 ?_
    refine At.whenT 84 R hb4 ?_
    refine At.whenT 85 R hb4 ?_
    refine At.effT R R (jw R) hb4 (vc R R R (os:=[.const (.string (⟨#[118]⟩:BA)),.const (.string (⟨#[119]⟩:BA))]) R sl_41 (xs:=([(⟨#[118]⟩:BA),(⟨#[119]⟩:BA)]:List BA)) (jf (vk _) (jf (vk _) jg)) R R) ?_
    rintro _ _ ⟨v25,rfl,rfl⟩
    replace hF:=W.vq hF
    refine At.effT R R (jw R) hb4 (jn R R (lends_row 0 86 R R jp) (jq R en_29 (jf (ja R) (jf (ja R) jg))) (zo.ok hF) (by rintro _ _ ⟨r,_,rfl,_⟩;exact vp)) ?_
    rintro _ _ ⟨_,_,⟨r26,hF,rfl,rfl⟩,rfl,rfl⟩
    refine At.d R R R R (does_pickT (ja R) hb4 (ja R)) ?_
    refine At.d R R R R (jb (x:=(.tv kBool r26)) (ja R)) ?_
    refine At.vn R R R R (jw R) R (fun hg36=>(jb (x:=(.tv kBool r19)) (ja R))) ?_
    refine At.d R R R R (jm (ja R) (ja R) (jl _) vh) ?_
    refine At.d R R R R (jb (x:=(.tv kBool (r26&&r19))) (ja R)) ?_
    refine At.split (r26&&r19) (fun hb5=>?_) (fun hb5=>?_)
    ·replace hF:=W.ite_t hb5 hF
     refine At.whenT 90 R (and_l hb5) ?_
     refine At.effT R R (jw R) hb5 (vc R R R (os:=[.const (.string (⟨#[97]⟩:BA)),.const (.string (⟨#[98]⟩:BA))]) R sl_41 (xs:=([(⟨#[97]⟩:BA),(⟨#[98]⟩:BA)]:List BA)) (jf (vk _) (jf (vk _) jg)) R R) ?_
     rintro _ _ ⟨v26,rfl,rfl⟩
     refine At.freeze 0 93 R R ?_
     replace hF:=W.vq hF
     refine At.effT R R (jw R) hb5 (jo R R (jq R en_27 (jf (vk _) (jf (ja R) jg))) [] R (qe.ok hF)) ?_
     rintro _ _ ⟨_,_,⟨r27,hF,rfl,rfl⟩,rfl,rfl⟩
     refine At.effT R R (jw R) hb5 (vc R R R (os:=[.tmp 94]) R sl_22 (xs:=([r27]:List Object)) (jf (ja R) jg) R R) ?_
     rintro _ _ ⟨v27,rfl,rfl⟩
     refine At.freeze 0 95 R R ?_
     replace hF:=W.vq hF
     refine At.effT R R (jw R) hb5 (jo R R (jq R en_28 (jf (ja R) jg)) [] R (qi.ok hF)) ?_
     rintro _ _ ⟨_,_,⟨r28,hF,rfl,rfl⟩,rfl,rfl⟩
     refine At.doesT R R (jw R) hb5 R R R (vd (jr (ji _ _) (jr (ji _ _) js)) zr_37 bd_37 R (fills_cons R Vv (fills_cons R qf fills_nil))) ?_
     refine At.doesT R R (jw R) hb5 R R R (vd (jr (ji _ _) js) zr_37 bd_37 R (fills_cons R Vv fills_nil)) ?_
     refine At.doesT R R (jw R) hb5 R R R (vd (jr (ja R) (jr (ja R) js)) zr_39 bd_39 R (fills_cons R Jf (fills_cons R Jg fills_nil))) ?_
     replace hF:=W.vq hF
     refine At.effT R R (jw R) hb5 (jn R R jp (jq R en_18 (jf (ja R) (jf (ja R) jg))) (yl.ok hF) (by rintro _ _ ⟨r,_,rfl,_⟩;exact vp)) ?_
     rintro _ _ ⟨_,_,⟨r29,hF,rfl,rfl⟩,rfl,rfl⟩
     refine At.doesT R R (jw R) hb5 R R R (ve (ja R)) ?_
     refine At.d R R R R (does_pickT (ja R) hb5 (ja R)) ?_
     refine At.d R R R R (jd (x:=(.tv kBool (!r29))) (ja R)) ?_
     refine At.done (At.vl ?_)
     refine At.w [] R [(0,(.tv kBool (!r29)))] ⟨R,trivial⟩ (At.r ⟨(!r29),hF,R,R⟩)
    ·replace hF:=W.ite_f hb5 hF
     refine At.skipG R R (jw R) hb5 R R ?_
     refine At.skipG R R (jw R) hb5 R R ?_
     refine At.skipG R R (jw R) hb5 R R ?_
     refine At.skipG R R (jw R) hb5 R R ?_
     refine At.skipG R R (jw R) hb5 R R ?_
     refine At.skipG R R (jw R) hb5 R R ?_
     refine At.skipG R R (jw R) hb5 R R ?_
     refine At.skipG R R (jw R) hb5 R R ?_
     refine At.skipG R R (jw R) hb5 R R ?_
     refine At.d R R R R (does_pickF (ja R) hb5 (jl _)) ?_
     refine At.d R R R R (jd (x:=(.tv kBool false)) (ja R)) ?_
     refine At.done (At.vl ?_)
     refine At.w [] R [(0,(.tv kBool false))] ⟨R,trivial⟩ (At.r ⟨false,hF,R,R⟩)
   ·replace hF:=W.ite_f hb4 hF
    refine At.skipG R R (jw R) hb4 R R ?_
    refine At.skipG R R (jw R) hb4 R R ?_
    refine At.d R R R R (does_pickF (ja R) hb4 (jl _)) ?_
    refine At.d R R R R (jb (x:=(.tv kBool false)) (ja R)) ?_
    refine At.skipG R R (jw R) R R R ?_
    refine At.d R R R R (does_pickF (ja R) R (jl _)) ?_
    refine At.d R R R R (jb (x:=(.tv kBool false)) (ja R)) ?_
    refine At.skipG R R (jw R) R R R ?_
    refine At.skipG R R (jw R) R R R ?_
    refine At.skipG R R (jw R) R R R ?_
    refine At.skipG R R (jw R) R R R ?_
    refine At.skipG R R (jw R) R R R ?_
    refine At.skipG R R (jw R) R R R ?_
    refine At.skipG R R (jw R) R R R ?_
    refine At.skipG R R (jw R) R R R ?_
    refine At.skipG R R (jw R) R R R ?_
    refine At.d R R R R (does_pickF (ja R) R (jl _)) ?_
    refine At.d R R R R (jd (x:=(.tv kBool false)) (ja R)) ?_
    refine At.done (At.vl ?_)
    refine At.w [] R [(0,(.tv kBool false))] ⟨R,trivial⟩ (At.r ⟨false,hF,R,R⟩)
  ·rintro _ _ ⟨t1,hF,rfl,rfl⟩
   unfold ww.c1 at hF
   refine At.ret ?_
   exact At.j rfl (rv_tmp rfl) [] rfl ⟨t1,hF,rfl,rfl⟩
def Vj.c1:W Bool:=W.ret true
def Vj.c2 (i6:Int) (A1:Int→W Bool):W Bool:=A1 (w64 (i6+(1:Int)))
def Vj.l2 (m1:Map) (i6:Int) (K2:W Bool) (A2:Int→W Bool) (k36:Int):W Bool:=W.ite (decide (k36<(((rd zObject m1.Objects i6).Tags).length:Int))) (W.req (0≤k36∧k36<(((rd zObject m1.Objects i6).Tags).length:Int)) (W.ite (decide ((300:Int)<(w64 ((((rd zTag ((rd zObject m1.Objects i6).Tags) k36).Key).size:Int)+(((rd zTag ((rd zObject m1.Objects i6).Tags) k36).Value).size:Int))))) (W.ret false) (A2 (w64 (k36+(1:Int)))))) (K2)
def Vj.c3 (m1:Map) (i6:Int) (K2:W Bool):W Bool:=W.ex fun n=>W.iter1 (Vj.l2 m1 i6 K2) n (0:Int)
def Vj.l3 (m1:Map) (i6:Int) (K3:W Bool) (A3:Int→W Bool) (k39:Int):W Bool:=W.ite (decide (k39<(((rd zObject m1.Objects i6).Refs).length:Int))) (W.req (0≤k39∧k39<(((rd zObject m1.Objects i6).Refs).length:Int)) (W.ite (decide ((60:Int)<((rd (⟨#[]⟩:BA) ((rd zObject m1.Objects i6).Refs) k39).size:Int))) (W.ret false) (A3 (w64 (k39+(1:Int)))))) (K3)
def Vj.l1 (m1:Map) (K1:W Bool) (A1:Int→W Bool) (i6:Int):W Bool:=W.ite (decide (i6<(m1.Objects.length:Int))) (W.req (0≤i6∧i6<(m1.Objects.length:Int)) (W.ite (((decide ((12:Int)<(((rd zObject m1.Objects i6).Refs).length:Int)))||(decide ((20:Int)<(((rd zObject m1.Objects i6).Tags).length:Int))))||(decide ((60:Int)<(((rd zObject m1.Objects i6).Id).size:Int)))) (W.ret false) (W.ex fun n=>W.iter1 (Vj.l3 m1 i6 (Vj.c3 m1 i6 (Vj.c2 i6 A1))) n (0:Int)))) (K1)
def Vj.F (m1:Map) (most1:Int):W Bool:=W.ite (decide (most1<(m1.Objects.length:Int))) (W.ret false) (W.ex fun n=>W.iter1 (Vj.l1 m1 (Vj.c1)) n (0:Int))
theorem Vj.ok {m1:Map} {most1:Int} {Q:Bool→Prop} (hF:Vj.F m1 most1 Q):Con Tryz.prog 11 [.tv kMap m1,.tv (kInt .i64) most1] [] (fun ta rs'=>∃ (r:Bool),Q r∧ta=.tv kBool r∧rs'=[]):=by
 refine Con.i Tryz.func11 Tryz.ntmps11 R R (fun C=>?_)
 unfold Vj.F at hF
 refine At.seq (At.region (At.f R (jy R R R (ja R)) ?_))
 rintro _ _ ⟨g1,rfl,rfl⟩
 refine At.d R R R R (jd (x:=(.tv kBool false)) (jl _)) ?_
 refine At.done (At.vl (At.seq (At.seq (At.region (At.d R R R R (je (ja R) wn) ?_)))))
 refine At.d R R R R (jc (ja R) 0 R qw ty_22) ?_
 refine At.d R R R R (jt (ja R) Tryz.underlying22) ?_
 refine At.d R R R R (jb (x:=(.tv (kInt .i64) most1)) (ja R)) ?_
 refine At.d R R R R (jk (ja R) (ja R) bin_gtr) ?_
 refine At.done (At.vl ?_)
 refine At.cond (ja R) (fun hb1=>?_) (fun hb1=>?_)
 ·replace hF:=W.ite_t hb1 hF
  refine At.seq (At.region (At.d R R R R (jd (x:=(.tv kBool false)) (jl _)) ?_))
  refine At.done (At.vl (At.ret (At.vm ?_)))
  exact At.j rfl (rv_tmp rfl) [] rfl ⟨false,hF,rfl,rfl⟩
 ·replace hF:=W.ite_f hb1 hF
  refine At.skip (At.vl ?_)
  refine At.cut (fun rs L=>∃ _:Unit,Vj.c1 Q∧rs=[]∧L=mkL []) ?_ ?_
  ·refine At.seq (At.region (At.d R R R R (jd (x:=(.tv (kInt .i64) (0:Int))) (ji _ _)) ?_))
   refine At.done (At.vl (At.block ?_))
   obtain ⟨n3,hF⟩:=hF
   refine At.w [0] R [(2,(.eq (.pointer (some ⟨g1,0,none⟩)))),(5,(.tv (kInt .i64) (0:Int)))] ⟨R,R,trivial⟩ ?_
   refine At.loop (fun m rs L=>∃ (i6:Int),W.iter1 (Vj.l1 m1 (Vj.c1)) m i6 Q∧rs=[.box g1 24 kMap m1]∧L=mkL [(2,(.eq (.pointer (some ⟨g1,0,none⟩)))),(5,(.tv (kInt .i64) i6))]) ?_ ?_ (m:=n3) ⟨(0:Int),hF,R,R⟩
   ·rintro rs L ⟨_,hF,_,_⟩;exact hF
   ·rintro m2 _ _ ⟨i6,hF,rfl,rfl⟩
    replace hF:=W.iter1_s hF
    unfold Vj.l1 at hF
    refine At.seq (At.seq (At.region (At.d R R R R (jb (x:=(.tv (kInt .i64) i6)) (ja R)) ?_)))
    refine At.d R R R R (je (ja R) wn) ?_
    refine At.d R R R R (jc (ja R) 0 R qw ty_22) ?_
    refine At.d R R R R (jt (ja R) Tryz.underlying22) ?_
    refine At.d R R R R (jk (ja R) (ja R) vg) ?_
    refine At.done (At.vl ?_)
    refine At.cond (ja R) (fun hb42=>?_) (fun hb42=>?_)
    ·replace hF:=W.ite_t hb42 hF
     refine At.skip (At.vl ?_)
     refine At.cut (fun rs L=>∃ _:Unit,Vj.c2 i6 (W.iter1 (Vj.l1 m1 (Vj.c1)) m2) Q∧rs=[.box g1 24 kMap m1]∧L=mkL [(2,(.eq (.pointer (some ⟨g1,0,none⟩)))),(5,(.tv (kInt .i64) i6))]) ?_ ?_
     ·refine At.block (At.seq (At.region (At.d R R R R (je (ja R) wn) ?_)))
      refine At.d R R R R (jc (ja R) 0 R qw ty_22) ?_
      refine At.d R R R R (jb (x:=(.tv (kInt .i64) i6)) (ja R)) ?_
      obtain ⟨hq26,hF⟩:=hF
      refine At.d R R R R (vj zObject (ja R) (ja R) Tryz.underlying22 ty_59 hq26) ?_
      refine At.d R R R R (vw (K:=kObject) (ja R) ty_59) ?_
      refine At.f R (eff_alloc R R R tz_59) ?_
      rintro _ _ ⟨g7,rfl,rfl⟩
      refine At.f R (jz R R (ja R) 0 R (Sub.self kObject) ty_59 (ja R)) ?_
      rintro _ _ ⟨rfl,rfl⟩
      refine At.done (At.vl (At.seq (At.seq (At.region (At.d R R R R (je (ja R) yo) ?_)))))
      refine At.d R R R R (jc (ja R) 0 R qh ty_41) ?_
      refine At.d R R R R (jt (ja R) Tryz.underlying41) ?_
      refine At.d R R R R (jk (ja R) (ji _ _) bin_gtr) ?_
      refine At.d R R R R (jb (x:=(.tv kBool (decide ((12:Int)<(((rd zObject m1.Objects i6).Refs).length:Int))))) (ja R)) ?_
      refine At.vn R R R R (jx R) R (fun hg41=>(je (ja R) fa_59_4)) ?_
      refine At.vn R R R R (jx R) R (fun hg42=>(jc (jh R hg42) 0 R zz ty_57)) ?_
      refine At.vn R R R R (jx R) R (fun hg43=>(jt (jh R hg43) Tryz.underlying57)) ?_
      refine At.vn R R R R (jx R) R (fun hg44=>(jk (jh R hg44) (ji _ _) bin_gtr)) ?_
      refine At.d R R R R (jm (ja R) (jl _) (ja R) vi) ?_
      refine At.d R R R R (jb (x:=(.tv kBool ((decide ((12:Int)<(((rd zObject m1.Objects i6).Refs).length:Int)))||(decide ((20:Int)<(((rd zObject m1.Objects i6).Tags).length:Int)))))) (ja R)) ?_
      refine At.vn R R R R (jx R) R (fun hg45=>(je (ja R) zi)) ?_
      refine At.vn R R R R (jx R) R (fun hg46=>(jc (jh R hg46) 0 R qo ty_9)) ?_
      refine At.vn R R R R (jx R) R (fun hg47=>(does_len_str (jh R hg47) Tryz.underlying9)) ?_
      refine At.vn R R R R (jx R) R (fun hg48=>(jk (jh R hg48) (ji _ _) bin_gtr)) ?_
      refine At.d R R R R (jm (ja R) (jl _) (ja R) vi) ?_
      refine At.done (At.vl ?_)
      refine At.cond (ja R) (fun hb52=>?_) (fun hb52=>?_)
      ·replace hF:=W.ite_t hb52 hF
       refine At.seq (At.region (At.d R R R R (jd (x:=(.tv kBool false)) (jl _)) ?_))
       refine At.done (At.vl (At.ret (At.vm ?_)))
       refine At.q ?_
       refine At.vm (At.vm ?_)
       refine At.q ?_
       refine At.vm ?_
       exact At.j rfl (rv_tmp rfl) [] rfl ⟨false,hF,rfl,rfl⟩
      ·replace hF:=W.ite_f hb52 hF
       refine At.skip (At.vl ?_)
       refine At.cut (fun rs L=>∃ _:Unit,Vj.c3 m1 i6 (Vj.c2 i6 (W.iter1 (Vj.l1 m1 (Vj.c1)) m2)) Q∧rs=[.box g1 24 kMap m1,.box g7 59 kObject (rd zObject m1.Objects i6)]∧L=mkL [(2,(.eq (.pointer (some ⟨g1,0,none⟩)))),(5,(.tv (kInt .i64) i6)),(6,(.eq (.pointer (some ⟨g7,0,none⟩))))]) ?_ ?_
       ·refine At.seq (At.region (At.d R R R R (jd (x:=(.tv (kInt .i64) (0:Int))) (ji _ _)) ?_))
        refine At.done (At.vl (At.block ?_))
        obtain ⟨n2,hF⟩:=hF
        refine At.w [1,0] R [(2,(.eq (.pointer (some ⟨g1,0,none⟩)))),(5,(.tv (kInt .i64) i6)),(6,(.eq (.pointer (some ⟨g7,0,none⟩)))),(7,(.tv (kInt .i64) (0:Int)))] ⟨R,R,R,R,trivial⟩ ?_
        refine At.loop (fun m rs L=>∃ (k39:Int),W.iter1 (Vj.l3 m1 i6 (Vj.c3 m1 i6 (Vj.c2 i6 (W.iter1 (Vj.l1 m1 (Vj.c1)) m2)))) m k39 Q∧rs=[.box g1 24 kMap m1,.box g7 59 kObject (rd zObject m1.Objects i6)]∧L=mkL [(2,(.eq (.pointer (some ⟨g1,0,none⟩)))),(5,(.tv (kInt .i64) i6)),(6,(.eq (.pointer (some ⟨g7,0,none⟩)))),(7,(.tv (kInt .i64) k39))]) ?_ ?_ (m:=n2) ⟨(0:Int),hF,R,R⟩
        ·rintro rs L ⟨_,hF,_,_⟩;exact hF
        ·rintro m4 _ _ ⟨k39,hF,rfl,rfl⟩
         replace hF:=W.iter1_s hF
         unfold Vj.l3 at hF
         refine At.seq (At.seq (At.region (At.d R R R R (jb (x:=(.tv (kInt .i64) k39)) (ja R)) ?_)))
         refine At.d R R R R (je (ja R) yo) ?_
         refine At.d R R R R (jc (ja R) 1 R qh ty_41) ?_
         refine At.d R R R R (jt (ja R) Tryz.underlying41) ?_
         refine At.d R R R R (jk (ja R) (ja R) vg) ?_
         refine At.done (At.vl ?_)
         refine At.cond (ja R) (fun hb67=>?_) (fun hb67=>?_)
         ·replace hF:=W.ite_t hb67 hF
          refine At.skip (At.vl (At.seq (At.block (At.seq (At.region (At.d R R R R (je (ja R) yo) ?_))))))
          refine At.d R R R R (jc (ja R) 1 R qh ty_41) ?_
          refine At.d R R R R (jb (x:=(.tv (kInt .i64) k39)) (ja R)) ?_
          obtain ⟨hq34,hF⟩:=hF
          refine At.d R R R R (vj (⟨#[]⟩:BA) (ja R) (ja R) Tryz.underlying41 ty_9 hq34) ?_
          refine At.d R R R R (vw (K:=kStr) (ja R) ty_9) ?_
          refine At.d R R R R (does_len_str (ja R) Tryz.underlying9) ?_
          refine At.d R R R R (jk (ja R) (ji _ _) bin_gtr) ?_
          refine At.done (At.vl ?_)
          refine At.cond (ja R) (fun hb68=>?_) (fun hb68=>?_)
          ·replace hF:=W.ite_t hb68 hF
           refine At.seq (At.region (At.d R R R R (jd (x:=(.tv kBool false)) (jl _)) ?_))
           refine At.done (At.vl (At.ret ?_))
           refine At.q ?_
           refine At.vm (At.vm ?_)
           refine At.q ?_
           refine At.vm ?_
           refine At.q ?_
           refine At.vm (At.vm ?_)
           refine At.q ?_
           refine At.vm ?_
           exact At.j rfl (rv_tmp rfl) [] rfl ⟨false,hF,rfl,rfl⟩
          ·replace hF:=W.ite_f hb68 hF
           refine At.skip ?_
           refine At.n ?_
           refine At.vl (At.region (At.d R R R R (jb (x:=(.tv (kInt .i64) k39)) (ja R)) ?_))
           refine At.d R R R R (jk (ja R) (ji _ _) vf) ?_
           refine At.d R R R R (jd (x:=(.tv (kInt .i64) (w64 (k39+(1:Int))))) (ja R)) ?_
           refine At.done (At.vl ?_)
           refine At.w [0,1] R [(2,(.eq (.pointer (some ⟨g1,0,none⟩)))),(5,(.tv (kInt .i64) i6)),(6,(.eq (.pointer (some ⟨g7,0,none⟩)))),(7,(.tv (kInt .i64) (w64 (k39+(1:Int)))))] ⟨R,R,R,R,trivial⟩ (At.r ⟨(w64 (k39+(1:Int))),hF,R,R⟩)
         ·replace hF:=W.ite_f hb67 hF
          refine At.exit ?_
          refine At.x (At.x ?_)
          refine At.h ?_
          refine At.vl ?_
          refine At.w [0,1] R [(2,(.eq (.pointer (some ⟨g1,0,none⟩)))),(5,(.tv (kInt .i64) i6)),(6,(.eq (.pointer (some ⟨g7,0,none⟩))))] ⟨R,R,R,trivial⟩ (At.r ⟨(),hF,R,R⟩)
       ·rintro _ _ ⟨_,hF,rfl,rfl⟩
        unfold Vj.c3 at hF
        refine At.seq (At.region (At.d R R R R (jd (x:=(.tv (kInt .i64) (0:Int))) (ji _ _)) ?_))
        refine At.done (At.vl (At.block ?_))
        obtain ⟨n1,hF⟩:=hF
        refine At.w [0,1] R [(2,(.eq (.pointer (some ⟨g1,0,none⟩)))),(5,(.tv (kInt .i64) i6)),(6,(.eq (.pointer (some ⟨g7,0,none⟩)))),(8,(.tv (kInt .i64) (0:Int)))] ⟨R,R,R,R,trivial⟩ ?_
        refine At.loop (fun m rs L=>∃ (k36:Int),W.iter1 (Vj.l2 m1 i6 (Vj.c2 i6 (W.iter1 (Vj.l1 m1 (Vj.c1)) m2))) m k36 Q∧rs=[.box g1 24 kMap m1,.box g7 59 kObject (rd zObject m1.Objects i6)]∧L=mkL [(2,(.eq (.pointer (some ⟨g1,0,none⟩)))),(5,(.tv (kInt .i64) i6)),(6,(.eq (.pointer (some ⟨g7,0,none⟩)))),(8,(.tv (kInt .i64) k36))]) ?_ ?_ (m:=n1) ⟨(0:Int),hF,R,R⟩
        ·rintro rs L ⟨_,hF,_,_⟩;exact hF
        ·rintro m3 _ _ ⟨k36,hF,rfl,rfl⟩
         replace hF:=W.iter1_s hF
         unfold Vj.l2 at hF
         refine At.seq (At.seq (At.region (At.d R R R R (jb (x:=(.tv (kInt .i64) k36)) (ja R)) ?_)))
         refine At.d R R R R (je (ja R) fa_59_4) ?_
         refine At.d R R R R (jc (ja R) 1 R zz ty_57) ?_
         refine At.d R R R R (jt (ja R) Tryz.underlying57) ?_
         refine At.d R R R R (jk (ja R) (ja R) vg) ?_
         refine At.done (At.vl ?_)
         refine At.cond (ja R) (fun hb61=>?_) (fun hb61=>?_)
         ·replace hF:=W.ite_t hb61 hF
          refine At.skip (At.vl (At.seq (At.block (At.seq ?_))))
          refine At.draw mixed [0,1] R [[],[]] (fun φ w hgd=>?_)
          obtain ⟨hq31,hF⟩:=hF
          refine AtH.take [0,1] hgd 0 R R R R (D':=#[Y,N,N,N,N,N,N,N,N,N,N,N,N,N,N,N]) (by kernel_rfl) (fun _ _ _ _ h=>h) R (je (ja R) fa_59_4) ?_
          refine AtH.take [0,1] hgd 1 R R R R (D':=#[Y,Y,N,N,N,N,N,N,N,N,N,N,N,N,N,N]) (by kernel_rfl) (fun _ _ _ _ h=>h) R (jc (ja R) 1 R zz ty_57) ?_
          refine AtH.take [0,1] hgd 2 R R R R (D':=#[Y,Y,Y,N,N,N,N,N,N,N,N,N,N,N,N,N]) (by kernel_rfl) (fun _ _ _ _ h=>h) R (jb (x:=(.tv (kInt .i64) k36)) (ja R)) ?_
          refine AtH.take [0,1] hgd 3 R R R R (D':=#[Y,Y,Y,Y,N,N,N,N,N,N,N,N,N,N,N,N]) (by kernel_rfl) (fun _ _ _ _ h=>h) R (vj zTag (ja R) (ja R) Tryz.underlying57 ty_73 hq31) ?_
          refine AtH.take [0,1] hgd 4 R R R R (D':=#[Y,Y,Y,Y,Y,N,N,N,N,N,N,N,N,N,N,N]) (by kernel_rfl) (fun _ _ _ _ h=>h) R (Ji (K:=kTag) (ja R) fa_73_0 sub_Tag_0) ?_
          refine AtH.take [0,1] hgd 5 R R R R (D':=#[Y,Y,Y,Y,Y,Y,N,N,N,N,N,N,N,N,N,N]) (by kernel_rfl) (fun _ _ _ _ h=>h) R (vw (K:=kStr) (ja R) ty_9) ?_
          refine AtH.take [0,1] hgd 6 R R R R (D':=#[Y,Y,Y,Y,Y,Y,Y,N,N,N,N,N,N,N,N,N]) (by kernel_rfl) (fun _ _ _ _ h=>h) R (does_len_str (ja R) Tryz.underlying9) ?_
          refine AtH.take [0,1] hgd 7 R R R R (D':=#[Y,Y,Y,Y,Y,Y,Y,Y,N,N,N,N,N,N,N,N]) (by kernel_rfl) (fun _ _ _ _ h=>h) R (je (ja R) fa_59_4) ?_
          refine AtH.take [0,1] hgd 8 R R R R (D':=#[Y,Y,Y,Y,Y,Y,Y,Y,Y,N,N,N,N,N,N,N]) (by kernel_rfl) (fun _ _ _ _ h=>h) R (jc (ja R) 1 R zz ty_57) ?_
          refine AtH.take [0,1] hgd 9 R R R R (D':=#[Y,Y,Y,Y,Y,Y,Y,Y,Y,Y,N,N,N,N,N,N]) (by kernel_rfl) (fun _ _ _ _ h=>h) R (jb (x:=(.tv (kInt .i64) k36)) (ja R)) ?_
          refine AtH.take [0,1] hgd 10 R R R R (D':=#[Y,Y,Y,Y,Y,Y,Y,Y,Y,Y,Y,N,N,N,N,N]) (by kernel_rfl) (fun _ _ _ _ h=>h) R (vj zTag (ja R) (ja R) Tryz.underlying57 ty_73 hq31) ?_
          refine AtH.take [0,1] hgd 11 R R R R (D':=#[Y,Y,Y,Y,Y,Y,Y,Y,Y,Y,Y,Y,N,N,N,N]) (by kernel_rfl) (fun _ _ _ _ h=>h) R (Ji (K:=kTag) (ja R) fa_73_1 sub_Tag_1) ?_
          refine AtH.take [0,1] hgd 12 R R R R (D':=#[Y,Y,Y,Y,Y,Y,Y,Y,Y,Y,Y,Y,Y,N,N,N]) (by kernel_rfl) (fun _ _ _ _ h=>h) R (vw (K:=kStr) (ja R) ty_9) ?_
          refine AtH.take [0,1] hgd 13 R R R R (D':=#[Y,Y,Y,Y,Y,Y,Y,Y,Y,Y,Y,Y,Y,Y,N,N]) (by kernel_rfl) (fun _ _ _ _ h=>h) R (does_len_str (ja R) Tryz.underlying9) ?_
          refine AtH.take [0,1] hgd 14 R R R R (D':=#[Y,Y,Y,Y,Y,Y,Y,Y,Y,Y,Y,Y,Y,Y,Y,N]) (by kernel_rfl) (fun _ _ _ _ h=>h) R (jk (ja R) (ja R) vf) ?_
          refine AtH.take [0,1] hgd 15 R R R R (D':=#[Y,Y,Y,Y,Y,Y,Y,Y,Y,Y,Y,Y,Y,Y,Y,Y]) (by kernel_rfl) (fun _ _ _ _ h=>h) R (jk (ja R) (ji _ _) bin_gtr) ?_
          refine AtH.done (by kernel_rfl) ?_
          refine At.vl ?_
          refine At.cond (ja R) (fun hb62=>?_) (fun hb62=>?_)
          ·replace hF:=W.ite_t hb62 hF
           refine At.seq (At.region (At.d R R R R (jd (x:=(.tv kBool false)) (jl _)) ?_))
           refine At.done (At.vl (At.ret ?_))
           refine At.q ?_
           refine At.vm (At.vm ?_)
           refine At.q ?_
           refine At.q ?_
           refine At.vm (At.vm ?_)
           refine At.q ?_
           refine At.vm ?_
           exact At.j rfl (rv_tmp rfl) [] rfl ⟨false,hF,rfl,rfl⟩
          ·replace hF:=W.ite_f hb62 hF
           refine At.skip ?_
           refine At.n ?_
           refine At.vl (At.region (At.d R R R R (jb (x:=(.tv (kInt .i64) k36)) (ja R)) ?_))
           refine At.d R R R R (jk (ja R) (ji _ _) vf) ?_
           refine At.d R R R R (jd (x:=(.tv (kInt .i64) (w64 (k36+(1:Int))))) (ja R)) ?_
           refine At.done (At.vl ?_)
           refine At.w [0,1] R [(2,(.eq (.pointer (some ⟨g1,0,none⟩)))),(5,(.tv (kInt .i64) i6)),(6,(.eq (.pointer (some ⟨g7,0,none⟩)))),(8,(.tv (kInt .i64) (w64 (k36+(1:Int)))))] ⟨R,R,R,R,trivial⟩ (At.r ⟨(w64 (k36+(1:Int))),hF,R,R⟩)
         ·replace hF:=W.ite_f hb61 hF
          refine At.exit ?_
          refine At.x (At.x ?_)
          refine At.h ?_
          refine At.n ?_
          refine At.vl ?_
          refine At.w [0] R [(2,(.eq (.pointer (some ⟨g1,0,none⟩)))),(5,(.tv (kInt .i64) i6))] ⟨R,R,trivial⟩ (At.r ⟨(),hF,R,R⟩)
     ·rintro _ _ ⟨_,hF,rfl,rfl⟩
      unfold Vj.c2 at hF
      refine At.region (At.d R R R R (jb (x:=(.tv (kInt .i64) i6)) (ja R)) ?_)
      refine At.d R R R R (jk (ja R) (ji _ _) vf) ?_
      refine At.d R R R R (jd (x:=(.tv (kInt .i64) (w64 (i6+(1:Int))))) (ja R)) ?_
      refine At.done (At.vl ?_)
      refine At.w [0] R [(2,(.eq (.pointer (some ⟨g1,0,none⟩)))),(5,(.tv (kInt .i64) (w64 (i6+(1:Int)))))] ⟨R,R,trivial⟩ (At.r ⟨(w64 (i6+(1:Int))),hF,R,R⟩)
    ·replace hF:=W.ite_f hb42 hF
     refine At.exit ?_
     refine At.x (At.x ?_)
     refine At.h ?_
     refine At.vl ?_
     refine At.w [] R [] trivial (At.r ⟨(),hF,R,R⟩)
  ·rintro _ _ ⟨_,hF,rfl,rfl⟩
   unfold Vj.c1 at hF
   refine At.seq (At.region (At.d R R R R (jd (x:=(.tv kBool true)) (jl _)) ?_))
   refine At.done (At.vl (At.ret ?_))
   exact At.j rfl (rv_tmp rfl) [] rfl ⟨true,hF,rfl,rfl⟩
def Jr.c2 (m1:Map) (r1:Bool) (r5:(Map×Int)):W Bool:=W.bind (W.ite r1 (Jq.F m1) (W.ret ([]:List Violation))) (fun r8=>W.bind (W.ite (r1&&!(decide ((0:Int)<(r8.length:Int)))) (Jq.F r5.1) (W.ret ([]:List Violation))) (fun r9=>W.ret (r1&&((decide ((0:Int)<(r8.length:Int)))||((r9.length:Int)==(0:Int))))))
def Jr.c3 (i9:Int) (A1:Int→W Bool):W Bool:=A1 (w64 (i9+(1:Int)))
def Jr.c5 (K3:W Bool) (was24:Bool) (is24:Bool):W Bool:=W.ite (!(was24==is24)) (W.ret false) (K3)
def Jr.l2 (id1:BA) (r7:((List Segment)×(List (List BA)))) (i9:Int) (K5:Bool→W Bool) (A2:Bool→Int→W Bool) (is27:Bool) (k45:Int):W Bool:=W.req (0≤i9∧i9<(r7.2.length:Int)) (W.req (0≤i9∧i9<(r7.2.length:Int)) (W.ite (decide (k45<((rd ([]:List BA) r7.2 i9).length:Int))) (W.req ((!is27)=true→0≤i9∧i9<(r7.2.length:Int)) (W.req ((!is27)=true→0≤i9∧i9<(r7.2.length:Int)) (W.req ((!is27)=true→0≤k45∧k45<((rd ([]:List BA) r7.2 i9).length:Int)) (A2 (is27||(sEq (rd (⟨#[]⟩:BA) (rd ([]:List BA) r7.2 i9) k45) id1)) (w64 (k45+(1:Int))))))) (K5 is27)))
def Jr.c4 (id1:BA) (r7:((List Segment)×(List (List BA)))) (i9:Int) (K3:W Bool) (was24:Bool):W Bool:=W.ex fun n=>W.iter2 (Jr.l2 id1 r7 i9 (Jr.c5 K3 was24)) n false (0:Int)
def Jr.l3 (m1:Map) (raw1:Int) (r6:((List Segment)×(List (List BA)))) (i9:Int) (K4:Bool→W Bool) (A3:Bool→Int→W Bool) (was27:Bool) (k48:Int):W Bool:=W.req (0≤i9∧i9<(r6.2.length:Int)) (W.req (0≤i9∧i9<(r6.2.length:Int)) (W.ite (decide (k48<((rd ([]:List BA) r6.2 i9).length:Int))) (W.req ((!was27)=true→0≤i9∧i9<(r6.2.length:Int)) (W.req ((!was27)=true→0≤k48∧k48<((rd ([]:List BA) r6.2 i9).length:Int)) (A3 (was27||(sEq (rd (⟨#[]⟩:BA) (rd ([]:List BA) r6.2 i9) k48) ((rd zObject m1.Objects (Int.tmod (w64 raw1) (m1.Objects.length:Int))).Id))) (w64 (k48+(1:Int)))))) (K4 was27)))
def Jr.l1 (m1:Map) (raw1:Int) (id1:BA) (r6:((List Segment)×(List (List BA)))) (r7:((List Segment)×(List (List BA)))) (K2:W Bool) (A1:Int→W Bool) (i9:Int):W Bool:=W.ite (decide (i9<(r6.1.length:Int))) (W.req (0≤i9∧i9<(r6.1.length:Int)) (W.req (0≤i9∧i9<(r7.1.length:Int)) (W.ite (!(yn (rd zSegment r6.1 i9) (rd zSegment r7.1 i9))) (W.ret false) (W.ex fun n=>W.iter2 (Jr.l3 m1 raw1 r6 i9 (Jr.c4 id1 r7 i9 (Jr.c3 i9 A1))) n false (0:Int))))) (K2)
def Jr.c1 (m1:Map) (raw1:Int) (id1:BA) (r1:Bool) (r5:(Map×Int)):W Bool:=W.bind (Vm.F m1) (fun r6=>W.bind (Vm.F r5.1) (fun r7=>W.ite ((((r6.1.length:Int) != (r7.1.length:Int))||((r6.1.length:Int) != (r6.2.length:Int)))||((r7.1.length:Int) != (r7.2.length:Int))) (W.ret false) (W.ex fun n=>W.iter1 (Jr.l1 m1 raw1 id1 r6 r7 (Jr.c2 m1 r1 r5)) n (0:Int))))
def Jr.c6 (i12:Int) (A4:Int→W Bool):W Bool:=A4 (w64 (i12+(1:Int)))
def Jr.l5 (m1:Map) (id1:BA) (r1:Bool) (i12:Int) (K6:W Bool) (A5:Int→W Bool) (k60:Int):W Bool:=W.req (0≤i12∧i12<(m1.Objects.length:Int)) (W.ite (decide (k60<(((rd zObject m1.Objects i12).Refs).length:Int))) (W.req (0≤i12∧i12<(m1.Objects.length:Int)) (W.req (0≤k60∧k60<(((rd zObject m1.Objects i12).Refs).length:Int)) (W.ite (sEq (rd (⟨#[]⟩:BA) ((rd zObject m1.Objects i12).Refs) k60) id1) (W.ret r1) (A5 (w64 (k60+(1:Int))))))) (K6))
def Jr.l4 (m1:Map) (id1:BA) (r1:Bool) (K1:W Bool) (A4:Int→W Bool) (i12:Int):W Bool:=W.ite (decide (i12<(m1.Objects.length:Int))) (W.ex fun n=>W.iter1 (Jr.l5 m1 id1 r1 i12 (Jr.c6 i12 A4)) n (0:Int)) (K1)
def Jr.F (m1:Map) (raw1:Int) (id1:BA):W Bool:=W.bind (ww.F) (fun r1=>W.bind (Vj.F m1 (24:Int)) (fun r2=>W.bind (W.ite (!(!r2)) (qa.F m1) (W.ret false)) (fun r3=>W.bind (W.ite (!((((!r2)||(!r3))||((m1.Objects.length:Int)==(0:Int)))||(decide ((24:Int)<(id1.size:Int))))) (zn.F m1 id1) (W.ret (0:Int))) (fun r4=>W.ite (((((!r2)||(!r3))||((m1.Objects.length:Int)==(0:Int)))||(decide ((24:Int)<(id1.size:Int))))||(decide ((0:Int)≤r4))) (W.ret r1) (W.req ((m1.Objects.length:Int)≠0) (W.req (0≤(Int.tmod (w64 raw1) (m1.Objects.length:Int))∧(Int.tmod (w64 raw1) (m1.Objects.length:Int))<(m1.Objects.length:Int)) (W.bind (atlas_Put.F m1 ({ (rd zObject m1.Objects (Int.tmod (w64 raw1) (m1.Objects.length:Int))) with Id:=id1 }:Object)) (fun r5=>W.ite ((r5.2 != (0:Int))||((((rd zObject m1.Objects (Int.tmod (w64 raw1) (m1.Objects.length:Int))).Kind) != (2:Int))&&(((rd zObject m1.Objects (Int.tmod (w64 raw1) (m1.Objects.length:Int))).Kind) != (3:Int)))) (W.ret r1) (W.ex fun n=>W.iter1 (Jr.l4 m1 id1 r1 (Jr.c1 m1 raw1 id1 r1 r5)) n (0:Int))))))))))
theorem Jr.ok {m1:Map} {raw1:Int} {id1:BA} {Q:Bool→Prop} (hF:Jr.F m1 raw1 id1 Q):Con Tryz.prog 8 [.tv kMap m1,.tv (kInt .u8) raw1,.tv kStr id1] [] (fun ta rs'=>∃ (r:Bool),Q r∧ta=.tv kBool r∧rs'=[]):=by
 refine Con.i Tryz.func8 Tryz.ntmps8 R R (fun C=>?_)
 unfold Jr.F at hF
 refine At.seq (At.region (At.f R (jy R R R (ja R)) ?_))
 rintro _ _ ⟨g1,rfl,rfl⟩
 refine At.d R R R R (jd (x:=(.tv kBool false)) (jl _)) ?_
 refine At.done (At.vl (At.seq (At.region ?_)))
 replace hF:=W.vq hF
 refine At.f R (jn R R jp (jq R en_10 jg) (ww.ok hF) (by rintro _ _ ⟨r,_,rfl,_⟩;exact vp)) ?_
 rintro _ _ ⟨_,_,⟨r1,hF,rfl,rfl⟩,rfl,rfl⟩
 refine At.d R R R R (jd (x:=(.tv kBool r1)) (ja R)) ?_
 refine At.done (At.vl (At.seq (At.seq (At.region (At.d R R R R (jc (ja R) 0 R (Sub.self kMap) ty_24) ?_)))))
 replace hF:=W.vq hF
 refine At.f R (jn R R jp (jq R en_11 (jf (ja R) (jf (ji _ _) jg))) (Vj.ok hF) (by rintro _ _ ⟨r,_,rfl,_⟩;exact vp)) ?_
 rintro _ _ ⟨_,_,⟨r2,hF,rfl,rfl⟩,rfl,rfl⟩
 refine At.d R R R R (ve (ja R)) ?_
 refine At.d R R R R (jb (x:=(.tv kBool (!r2))) (ja R)) ?_
 refine At.vn R R R R (jx R) R (fun hg1=>(jc (ja R) 0 R (Sub.self kMap) ty_24)) ?_
 replace hF:=W.vq hF
 refine At.effG R R R R (jx R) hF (fun r=>.tv kBool r) (fun hg2 hF=>vr (jn R R jp (jq R en_20 (jf (jh R hg2) jg)) (qa.ok hF) (by rintro _ _ ⟨r,_,rfl,_⟩;exact vp)) (by rintro _ _ ⟨_,_,⟨r,hF,rfl,rfl⟩,rfl,rfl⟩;exact ⟨r,hF,R,R⟩)) (fun r3 hF=>?_)
 refine At.vn R R R R (jx R) R (fun hg3=>(ve (jh R hg3))) ?_
 refine At.d R R R R (jm (ja R) (jl _) (ja R) vi) ?_
 refine At.d R R R R (jb (x:=(.tv kBool ((!r2)||(!r3)))) (ja R)) ?_
 refine At.vn R R R R (jx R) R (fun hg4=>(je (ja R) wn)) ?_
 refine At.vn R R R R (jx R) R (fun hg5=>(jc (jh R hg5) 0 R qw ty_22)) ?_
 refine At.vn R R R R (jx R) R (fun hg6=>(jt (jh R hg6) Tryz.underlying22)) ?_
 refine At.vn R R R R (jx R) R (fun hg7=>(jk (jh R hg7) (ji _ _) bin_eql)) ?_
 refine At.d R R R R (jm (ja R) (jl _) (ja R) vi) ?_
 refine At.d R R R R (jb (x:=(.tv kBool (((!r2)||(!r3))||((m1.Objects.length:Int)==(0:Int))))) (ja R)) ?_
 refine At.vn R R R R (jx R) R (fun hg8=>(jb (x:=(.tv kStr id1)) (ja R))) ?_
 refine At.vn R R R R (jx R) R (fun hg9=>(does_len_str (jh R hg9) Tryz.underlying9)) ?_
 refine At.vn R R R R (jx R) R (fun hg10=>(jk (jh R hg10) (ji _ _) bin_gtr)) ?_
 refine At.d R R R R (jm (ja R) (jl _) (ja R) vi) ?_
 refine At.d R R R R (jb (x:=(.tv kBool ((((!r2)||(!r3))||((m1.Objects.length:Int)==(0:Int)))||(decide ((24:Int)<(id1.size:Int)))))) (ja R)) ?_
 refine At.vn R R R R (jx R) R (fun hg11=>(jc (ja R) 0 R (Sub.self kMap) ty_24)) ?_
 refine At.vn R R R R (jx R) R (fun hg12=>(jb (x:=(.tv kStr id1)) (ja R))) ?_
 replace hF:=W.vq hF
 refine At.effG R R R R (jx R) hF (fun r=>.tv (kInt .i64) r) (fun hg13 hF=>vr (jn R R jp (jq R en_25 (jf (jh R hg13) (jf (jh R hg13) jg))) (zn.ok hF) (by rintro _ _ ⟨r,_,rfl,_⟩;exact flat_int)) (by rintro _ _ ⟨_,_,⟨r,hF,rfl,rfl⟩,rfl,rfl⟩;exact ⟨r,hF,R,R⟩)) (fun r4 hF=>?_)
 refine At.vn R R R R (jx R) R (fun hg14=>(jk (jh R hg14) (ji _ _) bin_geq)) ?_
 refine At.d R R R R (jm (ja R) (jl _) (ja R) vi) ?_
 refine At.done (At.vl ?_)
 refine At.cond (ja R) (fun hb1=>?_) (fun hb1=>?_)
 ·replace hF:=W.ite_t hb1 hF
  refine At.seq (At.region (At.d R R R R (jb (x:=(.tv kBool r1)) (ja R)) ?_))
  refine At.d R R R R (jd (x:=(.tv kBool r1)) (ja R)) ?_
  refine At.done (At.vl (At.ret (At.vm ?_)))
  exact At.j rfl (rv_tmp rfl) [] rfl ⟨r1,hF,rfl,rfl⟩
 ·replace hF:=W.ite_f hb1 hF
  refine At.skip (At.vl (At.seq ?_))
  refine At.draw mixed [0] R [[]] (fun φ w hgd=>?_)
  obtain ⟨hq1,hF⟩:=hF
  obtain ⟨hq2,hF⟩:=hF
  refine AtH.take [0] hgd 0 R R R R (D':=#[Y,N,N,N,N,N,N,N,N,N,N,N]) (by kernel_rfl) (fun _ _ _ _ h=>h) R (je (ja R) wn) ?_
  refine AtH.take [0] hgd 1 R R R R (D':=#[Y,Y,N,N,N,N,N,N,N,N,N,N]) (by kernel_rfl) (fun _ _ _ _ h=>h) R (jc (ja R) 0 R qw ty_22) ?_
  refine AtH.take [0] hgd 2 R R R R (D':=#[Y,Y,Y,N,N,N,N,N,N,N,N,N]) (by kernel_rfl) (fun _ _ _ _ h=>h) R (jb (x:=(.tv (kInt .u8) raw1)) (ja R)) ?_
  refine AtH.take [0] hgd 3 R R R R (D':=#[Y,Y,Y,Y,N,N,N,N,N,N,N,N]) (by kernel_rfl) (fun _ _ _ _ h=>h) R (does_conv_int (ja R) (by kernel_rfl) Tryz.underlying3) ?_
  refine AtH.take [0] hgd 4 R R R R (D':=#[Y,Y,Y,Y,Y,N,N,N,N,N,N,N]) (by kernel_rfl) (fun _ _ _ _ h=>h) R (je (ja R) wn) ?_
  refine AtH.take [0] hgd 5 R R R R (D':=#[Y,Y,Y,Y,Y,Y,N,N,N,N,N,N]) (by kernel_rfl) (fun _ _ _ _ h=>h) R (jc (ja R) 0 R qw ty_22) ?_
  refine AtH.take [0] hgd 6 R R R R (D':=#[Y,Y,Y,Y,Y,Y,Y,N,N,N,N,N]) (by kernel_rfl) (fun _ _ _ _ h=>h) R (jt (ja R) Tryz.underlying22) ?_
  refine AtH.take [0] hgd 7 R R R R (D':=#[Y,Y,Y,Y,Y,Y,Y,Y,N,N,N,N]) (by kernel_rfl) (fun _ _ _ _ h=>h) R (jk (ja R) (ja R) (bin_rem hq1)) ?_
  refine AtH.take [0] hgd 8 R R R R (D':=#[Y,Y,Y,Y,Y,Y,Y,Y,Y,N,N,N]) (by kernel_rfl) (fun _ _ _ _ h=>h) R (vj zObject (ja R) (ja R) Tryz.underlying22 ty_59 hq2) ?_
  refine AtH.take [0] hgd 9 R R R R (D':=#[Y,Y,Y,Y,Y,Y,Y,Y,Y,Y,N,N]) (by kernel_rfl) (fun _ _ _ _ h=>h) R (vw (K:=kObject) (ja R) ty_59) ?_
  refine AtH.all1 10 (by kernel_rfl) ?_
  refine AtH.f [(0,0)] R R R R R R (eff_alloc R R R tz_59) (D':=#[Y,Y,Y,Y,Y,Y,Y,Y,Y,Y,Y,N]) (by kernel_rfl) (by kernel_rfl) ?_
  rintro _ _ ⟨g3,rfl,rfl⟩
  refine ⟨_,.inr ⟨R,flat_eq⟩,?_⟩
  refine AtH.all1 11 (by kernel_rfl) ?_
  refine AtH.eff0 [(0,1)] R R R R R (jz R R (ja R) 0 R (Sub.self kObject) ty_59 (ja R)) (D':=#[Y,Y,Y,Y,Y,Y,Y,Y,Y,Y,Y,Y]) (by kernel_rfl) (by kernel_rfl) ?_
  rintro _ _ ⟨rfl,rfl⟩
  refine AtH.done (by kernel_rfl) ?_
  refine At.vl (At.seq (At.region (At.d R R R R (jc (ja R) 0 R (Sub.self kObject) ty_59) ?_)))
  refine At.f R (eff_alloc R R R tz_59) ?_
  rintro _ _ ⟨g4,rfl,rfl⟩
  refine At.f R (jz R R (ja R) 0 R (Sub.self kObject) ty_59 (ja R)) ?_
  rintro _ _ ⟨rfl,rfl⟩
  refine At.done (At.vl (At.seq (At.region (At.d R R R R (jb (x:=(.tv kStr id1)) (ja R)) ?_))))
  refine At.d R R R R (je (ja R) zi) ?_
  refine At.f R (jz R R (ja R) 0 R qo ty_9 (ja R)) ?_
  rintro _ _ ⟨rfl,rfl⟩
  refine At.done (At.vl (At.seq (At.region (At.d R R R R (jc (ja R) 2 R (Sub.self kMap) ty_24) ?_))))
  refine At.d R R R R (jc (ja R) 0 R (Sub.self kObject) ty_59) ?_
  replace hF:=W.vq hF
  refine At.f R (jo R R (jq R en_26 (jf (ja R) (jf (ja R) jg))) [] R (atlas_Put.ok hF)) ?_
  rintro _ _ ⟨_,_,⟨r5,hF,rfl,rfl⟩,rfl,rfl⟩
  refine At.d R R R R (jb (x:=(.tup2 (.tv kMap r5.1) (.tv (kInt .i64) r5.2))) (ja R)) ?_
  refine At.d R R R R (does_extract20 (ja R)) ?_
  refine At.d R R R R (does_extract21 (ja R)) ?_
  refine At.f R (eff_alloc R R R tz_24) ?_
  rintro _ _ ⟨g5,rfl,rfl⟩
  refine At.f R (jz R R (ja R) 0 R (Sub.self kMap) ty_24 (ja R)) ?_
  rintro _ _ ⟨rfl,rfl⟩
  refine At.d R R R R (jd (x:=(.tv (kInt .i64) r5.2)) (ja R)) ?_
  refine At.done (At.vl (At.seq (At.seq (At.region (At.d R R R R (jb (x:=(.tv (kInt .i64) r5.2)) (ja R)) ?_)))))
  refine At.d R R R R (jk (ja R) (ji _ _) bin_neq) ?_
  refine At.d R R R R (jb (x:=(.tv kBool (r5.2 != (0:Int)))) (ja R)) ?_
  refine At.vn R R R R (jx R) R (fun hg15=>(je (ja R) zw)) ?_
  refine At.vn R R R R (jx R) R (fun hg16=>(jc (jh R hg16) 2 R qt ty_3)) ?_
  refine At.vn R R R R (jx R) R (fun hg17=>(jk (jh R hg17) (ji _ _) bin_neq)) ?_
  refine At.vn R R R R (jx R) R (fun hg18=>(jb (x:=(.tv kBool (((rd zObject m1.Objects (Int.tmod (w64 raw1) (m1.Objects.length:Int))).Kind) != (2:Int)))) (jh R hg18))) ?_
  refine At.vn R R R R (ju R) R (fun hg19=>(je (ja R) zw)) ?_
  refine At.vn R R R R (ju R) R (fun hg20=>(jc (jh R hg20) 2 R qt ty_3)) ?_
  refine At.vn R R R R (ju R) R (fun hg21=>(jk (jh R hg21) (ji _ _) bin_neq)) ?_
  refine At.vn R R R R (jx R) R (fun hg22=>(jm (jh R hg22) (ja R) (jl _) (pick_andG (and_of hg22)))) ?_
  refine At.d R R R R (jm (ja R) (jl _) (ja R) vi) ?_
  refine At.done (At.vl ?_)
  refine At.cond (ja R) (fun hb2=>?_) (fun hb2=>?_)
  ·replace hF:=W.ite_t hb2 hF
   refine At.seq (At.region (At.d R R R R (jb (x:=(.tv kBool r1)) (ja R)) ?_))
   refine At.d R R R R (jd (x:=(.tv kBool r1)) (ja R)) ?_
   refine At.done (At.vl (At.ret (At.vm ?_)))
   exact At.j rfl (rv_tmp rfl) [] rfl ⟨r1,hF,rfl,rfl⟩
  ·replace hF:=W.ite_f hb2 hF
   refine At.skip (At.vl ?_)
   refine At.cut (fun rs L=>∃ _:Unit,Jr.c1 m1 raw1 id1 r1 r5 Q∧rs=[.box g1 24 kMap m1,.box g3 59 kObject (rd zObject m1.Objects (Int.tmod (w64 raw1) (m1.Objects.length:Int))),.box g5 24 kMap r5.1]∧L=mkL [(2,(.tv kStr id1)),(3,(.eq (.pointer (some ⟨g1,0,none⟩)))),(7,(.tv kBool r1)),(8,(.eq (.pointer (some ⟨g3,0,none⟩)))),(10,(.eq (.pointer (some ⟨g5,0,none⟩))))]) ?_ ?_
   ·refine At.seq (At.region (At.d R R R R (jd (x:=(.tv (kInt .i64) (0:Int))) (ji _ _)) ?_))
    refine At.done (At.vl (At.block ?_))
    obtain ⟨n5,hF⟩:=hF
    refine At.w [3,2,0] R [(2,(.tv kStr id1)),(3,(.eq (.pointer (some ⟨g1,0,none⟩)))),(7,(.tv kBool r1)),(8,(.eq (.pointer (some ⟨g3,0,none⟩)))),(10,(.eq (.pointer (some ⟨g5,0,none⟩)))),(12,(.tv (kInt .i64) (0:Int)))] ⟨R,R,R,R,R,R,trivial⟩ ?_
    refine At.loop (fun m rs L=>∃ (i12:Int),W.iter1 (Jr.l4 m1 id1 r1 (Jr.c1 m1 raw1 id1 r1 r5)) m i12 Q∧rs=[.box g1 24 kMap m1,.box g3 59 kObject (rd zObject m1.Objects (Int.tmod (w64 raw1) (m1.Objects.length:Int))),.box g5 24 kMap r5.1]∧L=mkL [(2,(.tv kStr id1)),(3,(.eq (.pointer (some ⟨g1,0,none⟩)))),(7,(.tv kBool r1)),(8,(.eq (.pointer (some ⟨g3,0,none⟩)))),(10,(.eq (.pointer (some ⟨g5,0,none⟩)))),(12,(.tv (kInt .i64) i12))]) ?_ ?_ (m:=n5) ⟨(0:Int),hF,R,R⟩
    ·rintro rs L ⟨_,hF,_,_⟩;exact hF
    ·rintro m5 _ _ ⟨i12,hF,rfl,rfl⟩
     replace hF:=W.iter1_s hF
     unfold Jr.l4 at hF
     refine At.seq (At.seq (At.region (At.d R R R R (jb (x:=(.tv (kInt .i64) i12)) (ja R)) ?_)))
     refine At.d R R R R (je (ja R) wn) ?_
     refine At.d R R R R (jc (ja R) 0 R qw ty_22) ?_
     refine At.d R R R R (jt (ja R) Tryz.underlying22) ?_
     refine At.d R R R R (jk (ja R) (ja R) vg) ?_
     refine At.done (At.vl ?_)
     refine At.cond (ja R) (fun hb71=>?_) (fun hb71=>?_)
     ·replace hF:=W.ite_t hb71 hF
      refine At.skip (At.vl ?_)
      refine At.cut (fun rs L=>∃ _:Unit,Jr.c6 i12 (W.iter1 (Jr.l4 m1 id1 r1 (Jr.c1 m1 raw1 id1 r1 r5)) m5) Q∧rs=[.box g1 24 kMap m1,.box g3 59 kObject (rd zObject m1.Objects (Int.tmod (w64 raw1) (m1.Objects.length:Int))),.box g5 24 kMap r5.1]∧L=mkL [(2,(.tv kStr id1)),(3,(.eq (.pointer (some ⟨g1,0,none⟩)))),(7,(.tv kBool r1)),(8,(.eq (.pointer (some ⟨g3,0,none⟩)))),(10,(.eq (.pointer (some ⟨g5,0,none⟩)))),(12,(.tv (kInt .i64) i12))]) ?_ ?_
      ·refine At.block (At.seq (At.region (At.d R R R R (jd (x:=(.tv (kInt .i64) (0:Int))) (ji _ _)) ?_)))
       refine At.done (At.vl (At.block ?_))
       obtain ⟨n4,hF⟩:=hF
       refine At.w [0,1,2] R [(2,(.tv kStr id1)),(3,(.eq (.pointer (some ⟨g1,0,none⟩)))),(7,(.tv kBool r1)),(8,(.eq (.pointer (some ⟨g3,0,none⟩)))),(10,(.eq (.pointer (some ⟨g5,0,none⟩)))),(12,(.tv (kInt .i64) i12)),(13,(.tv (kInt .i64) (0:Int)))] ⟨R,R,R,R,R,R,R,trivial⟩ ?_
       refine At.loop (fun m rs L=>∃ (k60:Int),W.iter1 (Jr.l5 m1 id1 r1 i12 (Jr.c6 i12 (W.iter1 (Jr.l4 m1 id1 r1 (Jr.c1 m1 raw1 id1 r1 r5)) m5))) m k60 Q∧rs=[.box g1 24 kMap m1,.box g3 59 kObject (rd zObject m1.Objects (Int.tmod (w64 raw1) (m1.Objects.length:Int))),.box g5 24 kMap r5.1]∧L=mkL [(2,(.tv kStr id1)),(3,(.eq (.pointer (some ⟨g1,0,none⟩)))),(7,(.tv kBool r1)),(8,(.eq (.pointer (some ⟨g3,0,none⟩)))),(10,(.eq (.pointer (some ⟨g5,0,none⟩)))),(12,(.tv (kInt .i64) i12)),(13,(.tv (kInt .i64) k60))]) ?_ ?_ (m:=n4) ⟨(0:Int),hF,R,R⟩
       ·rintro rs L ⟨_,hF,_,_⟩;exact hF
       ·rintro m6 _ _ ⟨k60,hF,rfl,rfl⟩
        replace hF:=W.iter1_s hF
        unfold Jr.l5 at hF
        refine At.seq (At.seq (At.region (At.d R R R R (jb (x:=(.tv (kInt .i64) k60)) (ja R)) ?_)))
        refine At.d R R R R (je (ja R) wn) ?_
        refine At.d R R R R (jc (ja R) 0 R qw ty_22) ?_
        refine At.d R R R R (jb (x:=(.tv (kInt .i64) i12)) (ja R)) ?_
        obtain ⟨hq186,hF⟩:=hF
        refine At.d R R R R (vj zObject (ja R) (ja R) Tryz.underlying22 ty_59 hq186) ?_
        refine At.d R R R R (Ji (K:=kObject) (ja R) yo qh) ?_
        refine At.d R R R R (vw (K:=(kSlice kStr)) (ja R) ty_41) ?_
        refine At.d R R R R (jt (ja R) Tryz.underlying41) ?_
        refine At.d R R R R (jk (ja R) (ja R) vg) ?_
        refine At.done (At.vl ?_)
        refine At.cond (ja R) (fun hb80=>?_) (fun hb80=>?_)
        ·replace hF:=W.ite_t hb80 hF
         refine At.skip (At.vl (At.seq (At.block (At.seq (At.region (At.d R R R R (je (ja R) wn) ?_))))))
         refine At.d R R R R (jc (ja R) 0 R qw ty_22) ?_
         refine At.d R R R R (jb (x:=(.tv (kInt .i64) i12)) (ja R)) ?_
         obtain ⟨hq187,hF⟩:=hF
         refine At.d R R R R (vj zObject (ja R) (ja R) Tryz.underlying22 ty_59 hq187) ?_
         refine At.d R R R R (Ji (K:=kObject) (ja R) yo qh) ?_
         refine At.d R R R R (vw (K:=(kSlice kStr)) (ja R) ty_41) ?_
         refine At.d R R R R (jb (x:=(.tv (kInt .i64) k60)) (ja R)) ?_
         obtain ⟨hq188,hF⟩:=hF
         refine At.d R R R R (vj (⟨#[]⟩:BA) (ja R) (ja R) Tryz.underlying41 ty_9 hq188) ?_
         refine At.d R R R R (vw (K:=kStr) (ja R) ty_9) ?_
         refine At.d R R R R (jb (x:=(.tv kStr id1)) (ja R)) ?_
         refine At.d R R R R (jk (ja R) (ja R) bin_seql) ?_
         refine At.done (At.vl ?_)
         refine At.cond (ja R) (fun hb81=>?_) (fun hb81=>?_)
         ·replace hF:=W.ite_t hb81 hF
          refine At.seq (At.region (At.d R R R R (jb (x:=(.tv kBool r1)) (ja R)) ?_))
          refine At.d R R R R (jd (x:=(.tv kBool r1)) (ja R)) ?_
          refine At.done (At.vl (At.ret ?_))
          refine At.q ?_
          refine At.vm (At.vm ?_)
          refine At.q ?_
          refine At.q ?_
          refine At.vm (At.vm ?_)
          refine At.q ?_
          refine At.vm ?_
          exact At.j rfl (rv_tmp rfl) [] rfl ⟨r1,hF,rfl,rfl⟩
         ·replace hF:=W.ite_f hb81 hF
          refine At.skip ?_
          refine At.n ?_
          refine At.vl (At.region (At.d R R R R (jb (x:=(.tv (kInt .i64) k60)) (ja R)) ?_))
          refine At.d R R R R (jk (ja R) (ji _ _) vf) ?_
          refine At.d R R R R (jd (x:=(.tv (kInt .i64) (w64 (k60+(1:Int))))) (ja R)) ?_
          refine At.done (At.vl ?_)
          refine At.w [0,1,2] R [(2,(.tv kStr id1)),(3,(.eq (.pointer (some ⟨g1,0,none⟩)))),(7,(.tv kBool r1)),(8,(.eq (.pointer (some ⟨g3,0,none⟩)))),(10,(.eq (.pointer (some ⟨g5,0,none⟩)))),(12,(.tv (kInt .i64) i12)),(13,(.tv (kInt .i64) (w64 (k60+(1:Int)))))] ⟨R,R,R,R,R,R,R,trivial⟩ (At.r ⟨(w64 (k60+(1:Int))),hF,R,R⟩)
        ·replace hF:=W.ite_f hb80 hF
         refine At.exit ?_
         refine At.x (At.x ?_)
         refine At.h ?_
         refine At.n ?_
         refine At.vl ?_
         refine At.w [0,1,2] R [(2,(.tv kStr id1)),(3,(.eq (.pointer (some ⟨g1,0,none⟩)))),(7,(.tv kBool r1)),(8,(.eq (.pointer (some ⟨g3,0,none⟩)))),(10,(.eq (.pointer (some ⟨g5,0,none⟩)))),(12,(.tv (kInt .i64) i12))] ⟨R,R,R,R,R,R,trivial⟩ (At.r ⟨(),hF,R,R⟩)
      ·rintro _ _ ⟨_,hF,rfl,rfl⟩
       unfold Jr.c6 at hF
       refine At.region (At.d R R R R (jb (x:=(.tv (kInt .i64) i12)) (ja R)) ?_)
       refine At.d R R R R (jk (ja R) (ji _ _) vf) ?_
       refine At.d R R R R (jd (x:=(.tv (kInt .i64) (w64 (i12+(1:Int))))) (ja R)) ?_
       refine At.done (At.vl ?_)
       refine At.w [0,1,2] R [(2,(.tv kStr id1)),(3,(.eq (.pointer (some ⟨g1,0,none⟩)))),(7,(.tv kBool r1)),(8,(.eq (.pointer (some ⟨g3,0,none⟩)))),(10,(.eq (.pointer (some ⟨g5,0,none⟩)))),(12,(.tv (kInt .i64) (w64 (i12+(1:Int)))))] ⟨R,R,R,R,R,R,trivial⟩ (At.r ⟨(w64 (i12+(1:Int))),hF,R,R⟩)
     ·replace hF:=W.ite_f hb71 hF
      refine At.exit ?_
      refine At.x (At.x ?_)
      refine At.h ?_
      refine At.vl ?_
      refine At.w [0,1,2] R [(2,(.tv kStr id1)),(3,(.eq (.pointer (some ⟨g1,0,none⟩)))),(7,(.tv kBool r1)),(8,(.eq (.pointer (some ⟨g3,0,none⟩)))),(10,(.eq (.pointer (some ⟨g5,0,none⟩))))] ⟨R,R,R,R,R,trivial⟩ (At.r ⟨(),hF,R,R⟩)
   ·rintro _ _ ⟨_,hF,rfl,rfl⟩
    unfold Jr.c1 at hF
    refine At.seq (At.region (At.d R R R R (jc (ja R) 0 R (Sub.self kMap) ty_24) ?_))
    replace hF:=W.vq hF
    refine At.f R (jo R R (jq R en_12 (jf (ja R) jg)) [] R (Vm.ok hF)) ?_
    rintro _ _ ⟨_,_,⟨r6,v1,v2,hF,rfl,rfl⟩,rfl,rfl⟩
    refine At.d R R R R (jb (x:=(.tup2 (.eq v1) (.eq v2))) (ja R)) ?_
    refine At.d R R R R (does_extract20 (ja R)) ?_
    refine At.d R R R R (does_extract21 (ja R)) ?_
    refine At.d R R R R (jd (x:=(.eq v1)) (ja R)) ?_
    refine At.d R R R R (jd (x:=(.eq v2)) (ja R)) ?_
    refine At.done (At.vl (At.seq (At.region (At.d R R R R (jc (ja R) 4 R (Sub.self kMap) ty_24) ?_))))
    replace hF:=W.vq hF
    refine At.f R (jo R R (jq R en_12 (jf (ja R) jg)) [] R (Vm.ok hF)) ?_
    rintro _ _ ⟨_,_,⟨r7,v3,v4,hF,rfl,rfl⟩,rfl,rfl⟩
    refine At.d R R R R (jb (x:=(.tup2 (.eq v3) (.eq v4))) (ja R)) ?_
    refine At.d R R R R (does_extract20 (ja R)) ?_
    refine At.d R R R R (does_extract21 (ja R)) ?_
    refine At.d R R R R (jd (x:=(.eq v3)) (ja R)) ?_
    refine At.d R R R R (jd (x:=(.eq v4)) (ja R)) ?_
    refine At.done (At.vl (At.seq (At.seq (At.region (At.d R R R R (jb (x:=(.eq v1)) (ja R)) ?_)))))
    refine At.d R R R R (does_len_row (ja R) 2 R Tryz.underlying27) ?_
    refine At.d R R R R (jb (x:=(.eq v3)) (ja R)) ?_
    refine At.d R R R R (does_len_row (ja R) 0 R Tryz.underlying27) ?_
    refine At.d R R R R (jk (ja R) (ja R) bin_neq) ?_
    refine At.d R R R R (jb (x:=(.tv kBool ((r6.1.length:Int) != (r7.1.length:Int)))) (ja R)) ?_
    refine At.vn R R R R (jx R) R (fun hg23=>(jb (x:=(.eq v1)) (ja R))) ?_
    refine At.vn R R R R (jx R) R (fun hg24=>(does_len_row (jh R hg24) 2 R Tryz.underlying27)) ?_
    refine At.vn R R R R (jx R) R (fun hg25=>(jb (x:=(.eq v2)) (ja R))) ?_
    refine At.vn R R R R (jx R) R (fun hg26=>(does_len_row (jh R hg26) 3 R Tryz.underlying28)) ?_
    refine At.vn R R R R (jx R) R (fun hg27=>(jk (jh R hg27) (jh R hg27) bin_neq)) ?_
    refine At.d R R R R (jm (ja R) (jl _) (ja R) vi) ?_
    refine At.d R R R R (jb (x:=(.tv kBool (((r6.1.length:Int) != (r7.1.length:Int))||((r6.1.length:Int) != (r6.2.length:Int))))) (ja R)) ?_
    refine At.vn R R R R (jx R) R (fun hg28=>(jb (x:=(.eq v3)) (ja R))) ?_
    refine At.vn R R R R (jx R) R (fun hg29=>(does_len_row (jh R hg29) 0 R Tryz.underlying27)) ?_
    refine At.vn R R R R (jx R) R (fun hg30=>(jb (x:=(.eq v4)) (ja R))) ?_
    refine At.vn R R R R (jx R) R (fun hg31=>(does_len_row (jh R hg31) 1 R Tryz.underlying28)) ?_
    refine At.vn R R R R (jx R) R (fun hg32=>(jk (jh R hg32) (jh R hg32) bin_neq)) ?_
    refine At.d R R R R (jm (ja R) (jl _) (ja R) vi) ?_
    refine At.done (At.vl ?_)
    refine At.cond (ja R) (fun hb13=>?_) (fun hb13=>?_)
    ·replace hF:=W.ite_t hb13 hF
     refine At.seq (At.region (At.d R R R R (jd (x:=(.tv kBool false)) (jl _)) ?_))
     refine At.done (At.vl (At.ret (At.vm ?_)))
     exact At.j rfl (rv_tmp rfl) [] rfl ⟨false,hF,rfl,rfl⟩
    ·replace hF:=W.ite_f hb13 hF
     refine At.skip (At.vl ?_)
     refine At.cut (fun rs L=>∃ _:Unit,Jr.c2 m1 r1 r5 Q∧rs=[.box g1 24 kMap m1,.box g5 24 kMap r5.1]∧L=mkL [(3,(.eq (.pointer (some ⟨g1,0,none⟩)))),(7,(.tv kBool r1)),(10,(.eq (.pointer (some ⟨g5,0,none⟩))))]) ?_ ?_
     ·refine At.seq (At.region (At.d R R R R (jd (x:=(.tv (kInt .i64) (0:Int))) (ji _ _)) ?_))
      refine At.done (At.vl (At.block ?_))
      obtain ⟨n3,hF⟩:=hF
      refine At.w [4,5,6,2,3,0,1] R [(2,(.tv kStr id1)),(3,(.eq (.pointer (some ⟨g1,0,none⟩)))),(7,(.tv kBool r1)),(8,(.eq (.pointer (some ⟨g3,0,none⟩)))),(10,(.eq (.pointer (some ⟨g5,0,none⟩)))),(14,(.eq v1)),(15,(.eq v2)),(16,(.eq v3)),(17,(.eq v4)),(18,(.tv (kInt .i64) (0:Int)))] ⟨R,R,R,R,R,R,R,R,R,R,trivial⟩ ?_
      refine At.loop (fun m rs L=>∃ (i9:Int),W.iter1 (Jr.l1 m1 raw1 id1 r6 r7 (Jr.c2 m1 r1 r5)) m i9 Q∧rs=[.box g1 24 kMap m1,.box g3 59 kObject (rd zObject m1.Objects (Int.tmod (w64 raw1) (m1.Objects.length:Int))),.box g5 24 kMap r5.1,.row v1 39 kSegment r6.1,.row v2 41 (kSlice kStr) r6.2,.row v3 39 kSegment r7.1,.row v4 41 (kSlice kStr) r7.2]∧L=mkL [(2,(.tv kStr id1)),(3,(.eq (.pointer (some ⟨g1,0,none⟩)))),(7,(.tv kBool r1)),(8,(.eq (.pointer (some ⟨g3,0,none⟩)))),(10,(.eq (.pointer (some ⟨g5,0,none⟩)))),(14,(.eq v1)),(15,(.eq v2)),(16,(.eq v3)),(17,(.eq v4)),(18,(.tv (kInt .i64) i9))]) ?_ ?_ (m:=n3) ⟨(0:Int),hF,R,R⟩
      ·rintro rs L ⟨_,hF,_,_⟩;exact hF
      ·rintro m2 _ _ ⟨i9,hF,rfl,rfl⟩
       replace hF:=W.iter1_s hF
       unfold Jr.l1 at hF
       refine At.seq (At.seq (At.region (At.d R R R R (jb (x:=(.tv (kInt .i64) i9)) (ja R)) ?_)))
       refine At.d R R R R (jb (x:=(.eq v1)) (ja R)) ?_
       refine At.d R R R R (does_len_row (ja R) 3 R Tryz.underlying27) ?_
       refine At.d R R R R (jk (ja R) (ja R) vg) ?_
       refine At.done (At.vl ?_)
       refine At.cond (ja R) (fun hb42=>?_) (fun hb42=>?_)
       ·replace hF:=W.ite_t hb42 hF
        refine At.skip (At.vl ?_)
        refine At.cut (fun rs L=>∃ _:Unit,Jr.c3 i9 (W.iter1 (Jr.l1 m1 raw1 id1 r6 r7 (Jr.c2 m1 r1 r5)) m2) Q∧rs=[.box g1 24 kMap m1,.box g3 59 kObject (rd zObject m1.Objects (Int.tmod (w64 raw1) (m1.Objects.length:Int))),.box g5 24 kMap r5.1,.row v1 39 kSegment r6.1,.row v2 41 (kSlice kStr) r6.2,.row v3 39 kSegment r7.1,.row v4 41 (kSlice kStr) r7.2]∧L=mkL [(2,(.tv kStr id1)),(3,(.eq (.pointer (some ⟨g1,0,none⟩)))),(7,(.tv kBool r1)),(8,(.eq (.pointer (some ⟨g3,0,none⟩)))),(10,(.eq (.pointer (some ⟨g5,0,none⟩)))),(14,(.eq v1)),(15,(.eq v2)),(16,(.eq v3)),(17,(.eq v4)),(18,(.tv (kInt .i64) i9))]) ?_ ?_
        ·refine At.block (At.seq (At.seq ?_))
         refine At.draw mixed [0,1,2,3,4,5,6] R [[],[],[],[],[],[],[]] (fun φ w hgd=>?_)
         obtain ⟨hq115,hF⟩:=hF
         obtain ⟨hq116,hF⟩:=hF
         refine AtH.take [0,1,2,3,4,5,6] hgd 0 R R R R (D':=#[Y,N,N,N,N,N,N,N,N]) (by kernel_rfl) (fun _ _ _ _ h=>h) R (jb (x:=(.eq v1)) (ja R)) ?_
         refine AtH.take [0,1,2,3,4,5,6] hgd 1 R R R R (D':=#[Y,Y,N,N,N,N,N,N,N]) (by kernel_rfl) (fun _ _ _ _ h=>h) R (jb (x:=(.tv (kInt .i64) i9)) (ja R)) ?_
         refine AtH.take [0,1,2,3,4,5,6] hgd 2 R R R R (D':=#[Y,Y,Y,N,N,N,N,N,N]) (by kernel_rfl) (fun _ _ _ _ h=>h) R (does_idx_row (ja R) 3 R (ja R) Tryz.underlying27 ty_39 hq115) ?_
         refine AtH.take [0,1,2,3,4,5,6] hgd 3 R R R R (D':=#[Y,Y,Y,Y,N,N,N,N,N]) (by kernel_rfl) (fun _ _ _ _ h=>h) R (Jh (ja R) 3 R i9 0 R zSegment hq115 (Sub.self kSegment) ty_39) ?_
         refine AtH.take [0,1,2,3,4,5,6] hgd 4 R R R R (D':=#[Y,Y,Y,Y,Y,N,N,N,N]) (by kernel_rfl) (fun _ _ _ _ h=>h) R (jb (x:=(.eq v3)) (ja R)) ?_
         refine AtH.take [0,1,2,3,4,5,6] hgd 5 R R R R (D':=#[Y,Y,Y,Y,Y,Y,N,N,N]) (by kernel_rfl) (fun _ _ _ _ h=>h) R (jb (x:=(.tv (kInt .i64) i9)) (ja R)) ?_
         refine AtH.take [0,1,2,3,4,5,6] hgd 6 R R R R (D':=#[Y,Y,Y,Y,Y,Y,Y,N,N]) (by kernel_rfl) (fun _ _ _ _ h=>h) R (does_idx_row (ja R) 5 R (ja R) Tryz.underlying27 ty_39 hq116) ?_
         refine AtH.take [0,1,2,3,4,5,6] hgd 7 R R R R (D':=#[Y,Y,Y,Y,Y,Y,Y,Y,N]) (by kernel_rfl) (fun _ _ _ _ h=>h) R (Jh (ja R) 5 R i9 0 R zSegment hq116 (Sub.self kSegment) ty_39) ?_
         refine AtH.take [0,1,2,3,4,5,6] hgd 8 R R R R (D':=#[Y,Y,Y,Y,Y,Y,Y,Y,Y]) (by kernel_rfl) (fun _ _ _ _ h=>h) R (jk (ja R) (ja R) (bin_ne eqty_39)) ?_
         refine AtH.done (by kernel_rfl) ?_
         refine At.vl ?_
         refine At.cond (ja R) (fun hb49=>?_) (fun hb49=>?_)
         ·replace hF:=W.ite_t hb49 hF
          refine At.seq (At.region (At.d R R R R (jd (x:=(.tv kBool false)) (jl _)) ?_))
          refine At.done (At.vl (At.ret (At.vm ?_)))
          refine At.q ?_
          refine At.vm (At.vm ?_)
          refine At.q ?_
          refine At.vm ?_
          exact At.j rfl (rv_tmp rfl) [] rfl ⟨false,hF,rfl,rfl⟩
         ·replace hF:=W.ite_f hb49 hF
          refine At.skip (At.vl (At.seq (At.region (At.d R R R R (jd (x:=(.tv kBool false)) (jl _)) ?_))))
          refine At.d R R R R (jd (x:=(.tv kBool false)) (jl _)) ?_
          refine At.done (At.vl ?_)
          refine At.cut (fun rs L=>∃ (was24:Bool),Jr.c4 id1 r7 i9 (Jr.c3 i9 (W.iter1 (Jr.l1 m1 raw1 id1 r6 r7 (Jr.c2 m1 r1 r5)) m2)) was24 Q∧rs=[.box g1 24 kMap m1,.box g3 59 kObject (rd zObject m1.Objects (Int.tmod (w64 raw1) (m1.Objects.length:Int))),.box g5 24 kMap r5.1,.row v1 39 kSegment r6.1,.row v2 41 (kSlice kStr) r6.2,.row v3 39 kSegment r7.1,.row v4 41 (kSlice kStr) r7.2]∧L=mkL [(2,(.tv kStr id1)),(3,(.eq (.pointer (some ⟨g1,0,none⟩)))),(7,(.tv kBool r1)),(8,(.eq (.pointer (some ⟨g3,0,none⟩)))),(10,(.eq (.pointer (some ⟨g5,0,none⟩)))),(14,(.eq v1)),(15,(.eq v2)),(16,(.eq v3)),(17,(.eq v4)),(18,(.tv (kInt .i64) i9)),(19,(.tv kBool was24)),(20,(.tv kBool false))]) ?_ ?_
          ·refine At.seq (At.region (At.d R R R R (jd (x:=(.tv (kInt .i64) (0:Int))) (ji _ _)) ?_))
           refine At.done (At.vl (At.block ?_))
           obtain ⟨n2,hF⟩:=hF
           refine At.w [0,1,2,3,4,5,6] R [(2,(.tv kStr id1)),(3,(.eq (.pointer (some ⟨g1,0,none⟩)))),(7,(.tv kBool r1)),(8,(.eq (.pointer (some ⟨g3,0,none⟩)))),(10,(.eq (.pointer (some ⟨g5,0,none⟩)))),(14,(.eq v1)),(15,(.eq v2)),(16,(.eq v3)),(17,(.eq v4)),(18,(.tv (kInt .i64) i9)),(19,(.tv kBool false)),(20,(.tv kBool false)),(21,(.tv (kInt .i64) (0:Int)))] ⟨R,R,R,R,R,R,R,R,R,R,R,R,R,trivial⟩ ?_
           refine At.loop (fun m rs L=>∃ (was27:Bool) (k48:Int),W.iter2 (Jr.l3 m1 raw1 r6 i9 (Jr.c4 id1 r7 i9 (Jr.c3 i9 (W.iter1 (Jr.l1 m1 raw1 id1 r6 r7 (Jr.c2 m1 r1 r5)) m2)))) m was27 k48 Q∧rs=[.box g1 24 kMap m1,.box g3 59 kObject (rd zObject m1.Objects (Int.tmod (w64 raw1) (m1.Objects.length:Int))),.box g5 24 kMap r5.1,.row v1 39 kSegment r6.1,.row v2 41 (kSlice kStr) r6.2,.row v3 39 kSegment r7.1,.row v4 41 (kSlice kStr) r7.2]∧L=mkL [(2,(.tv kStr id1)),(3,(.eq (.pointer (some ⟨g1,0,none⟩)))),(7,(.tv kBool r1)),(8,(.eq (.pointer (some ⟨g3,0,none⟩)))),(10,(.eq (.pointer (some ⟨g5,0,none⟩)))),(14,(.eq v1)),(15,(.eq v2)),(16,(.eq v3)),(17,(.eq v4)),(18,(.tv (kInt .i64) i9)),(19,(.tv kBool was27)),(20,(.tv kBool false)),(21,(.tv (kInt .i64) k48))]) ?_ ?_ (m:=n2) ⟨false,(0:Int),hF,R,R⟩
           ·rintro rs L ⟨_,_,hF,_,_⟩;exact hF
           ·rintro m4 _ _ ⟨was27,k48,hF,rfl,rfl⟩
            replace hF:=W.iter2_s hF
            unfold Jr.l3 at hF
            refine At.seq (At.seq (At.region (At.d R R R R (jb (x:=(.tv (kInt .i64) k48)) (ja R)) ?_)))
            refine At.d R R R R (jb (x:=(.eq v2)) (ja R)) ?_
            refine At.d R R R R (jb (x:=(.tv (kInt .i64) i9)) (ja R)) ?_
            obtain ⟨hq158,hF⟩:=hF
            refine At.d R R R R (does_idx_row (ja R) 4 R (ja R) Tryz.underlying28 ty_41 hq158) ?_
            obtain ⟨hq159,hF⟩:=hF
            refine At.d R R R R (Jh (ja R) 4 R i9 0 R ([]:List BA) hq159 (Sub.self (kSlice kStr)) ty_41) ?_
            refine At.d R R R R (jt (ja R) Tryz.underlying41) ?_
            refine At.d R R R R (jk (ja R) (ja R) vg) ?_
            refine At.done (At.vl ?_)
            refine At.cond (ja R) (fun hb60=>?_) (fun hb60=>?_)
            ·replace hF:=W.ite_t hb60 hF
             refine At.skip (At.vl (At.seq (At.block ?_)))
             refine At.draw mixed [0,1,2,3,4,5,6] R [[],[],[],[],[],[],[]] (fun φ w hgd=>?_)
             obtain ⟨hq160,hF⟩:=hF
             obtain ⟨hq161,hF⟩:=hF
             refine AtH.take [0,1,2,3,4,5,6] hgd 0 R R R R (D':=#[Y,N,N,N,N,N,N,N,N,N,N,N,N,N]) (by kernel_rfl) (fun _ _ _ _ h=>h) R (jb (x:=(.tv kBool was27)) (ja R)) ?_
             refine AtH.take [0,1,2,3,4,5,6] hgd 1 R R R R (D':=#[Y,Y,N,N,N,N,N,N,N,N,N,N,N,N]) (by kernel_rfl) (fun _ _ _ _ h=>h) R (jb (x:=(.tv kBool was27)) (ja R)) ?_
             refine AtH.vo [0,1,2,3,4,5,6] hgd 2 R R R (jx R) R R (D':=#[Y,Y,Y,N,N,N,N,N,N,N,N,N,N,N]) (by kernel_rfl) (fun _ _ _ _ h=>h) R (fun hg405=>(jb (x:=(.eq v2)) (ja R))) ?_
             refine AtH.vo [0,1,2,3,4,5,6] hgd 3 R R R (jx R) R R (D':=#[Y,Y,Y,Y,N,N,N,N,N,N,N,N,N,N]) (by kernel_rfl) (fun _ _ _ _ h=>h) R (fun hg406=>(jb (x:=(.tv (kInt .i64) i9)) (ja R))) ?_
             refine AtH.vo [0,1,2,3,4,5,6] hgd 4 R R R (jx R) R R (D':=#[Y,Y,Y,Y,Y,N,N,N,N,N,N,N,N,N]) (by kernel_rfl) (fun _ _ _ _ h=>h) R (fun hg407=>(does_idx_row (jh R hg407) 4 R (jh R hg407) Tryz.underlying28 ty_41 (hq160 hg407))) ?_
             refine AtH.vo [0,1,2,3,4,5,6] hgd 5 R R R (jx R) R R (D':=#[Y,Y,Y,Y,Y,Y,N,N,N,N,N,N,N,N]) (by kernel_rfl) (fun _ _ _ _ h=>h) R (fun hg408=>(Jh (jh R hg408) 4 R i9 0 R ([]:List BA) (hq160 hg408) (Sub.self (kSlice kStr)) ty_41)) ?_
             refine AtH.vo [0,1,2,3,4,5,6] hgd 6 R R R (jx R) R R (D':=#[Y,Y,Y,Y,Y,Y,Y,N,N,N,N,N,N,N]) (by kernel_rfl) (fun _ _ _ _ h=>h) R (fun hg409=>(jb (x:=(.tv (kInt .i64) k48)) (ja R))) ?_
             refine AtH.vo [0,1,2,3,4,5,6] hgd 7 R R R (jx R) R R (D':=#[Y,Y,Y,Y,Y,Y,Y,Y,N,N,N,N,N,N]) (by kernel_rfl) (fun _ _ _ _ h=>h) R (fun hg410=>(vj (⟨#[]⟩:BA) (jh R hg410) (jh R hg410) Tryz.underlying41 ty_9 (hq161 hg410))) ?_
             refine AtH.vo [0,1,2,3,4,5,6] hgd 8 R R R (jx R) R R (D':=#[Y,Y,Y,Y,Y,Y,Y,Y,Y,N,N,N,N,N]) (by kernel_rfl) (fun _ _ _ _ h=>h) R (fun hg411=>(vw (K:=kStr) (jh R hg411) ty_9)) ?_
             refine AtH.vo [0,1,2,3,4,5,6] hgd 9 R R R (jx R) R R (D':=#[Y,Y,Y,Y,Y,Y,Y,Y,Y,Y,N,N,N,N]) (by kernel_rfl) (fun _ _ _ _ h=>h) R (fun hg412=>(je (ja R) zi)) ?_
             refine AtH.vo [0,1,2,3,4,5,6] hgd 10 R R R (jx R) R R (D':=#[Y,Y,Y,Y,Y,Y,Y,Y,Y,Y,Y,N,N,N]) (by kernel_rfl) (fun _ _ _ _ h=>h) R (fun hg413=>(jc (jh R hg413) 1 R qo ty_9)) ?_
             refine AtH.vo [0,1,2,3,4,5,6] hgd 11 R R R (jx R) R R (D':=#[Y,Y,Y,Y,Y,Y,Y,Y,Y,Y,Y,Y,N,N]) (by kernel_rfl) (fun _ _ _ _ h=>h) R (fun hg414=>(jk (jh R hg414) (jh R hg414) bin_seql)) ?_
             refine AtH.take [0,1,2,3,4,5,6] hgd 12 R R R R (D':=#[Y,Y,Y,Y,Y,Y,Y,Y,Y,Y,Y,Y,Y,N]) (by kernel_rfl) (fun _ _ _ _ h=>h) R (jm (ja R) (jl _) (ja R) vi) ?_
             refine AtH.take [0,1,2,3,4,5,6] hgd 13 R R R R (D':=#[Y,Y,Y,Y,Y,Y,Y,Y,Y,Y,Y,Y,Y,Y]) (by kernel_rfl) (fun _ _ _ _ h=>h) R (jd (x:=(.tv kBool (was27||(sEq (rd (⟨#[]⟩:BA) (rd ([]:List BA) r6.2 i9) k48) ((rd zObject m1.Objects (Int.tmod (w64 raw1) (m1.Objects.length:Int))).Id))))) (ja R)) ?_
             refine AtH.done (by kernel_rfl) ?_
             refine At.n ?_
             refine At.vl (At.region (At.d R R R R (jb (x:=(.tv (kInt .i64) k48)) (ja R)) ?_))
             refine At.d R R R R (jk (ja R) (ji _ _) vf) ?_
             refine At.d R R R R (jd (x:=(.tv (kInt .i64) (w64 (k48+(1:Int))))) (ja R)) ?_
             refine At.done (At.vl ?_)
             refine At.w [0,1,2,3,4,5,6] R [(2,(.tv kStr id1)),(3,(.eq (.pointer (some ⟨g1,0,none⟩)))),(7,(.tv kBool r1)),(8,(.eq (.pointer (some ⟨g3,0,none⟩)))),(10,(.eq (.pointer (some ⟨g5,0,none⟩)))),(14,(.eq v1)),(15,(.eq v2)),(16,(.eq v3)),(17,(.eq v4)),(18,(.tv (kInt .i64) i9)),(19,(.tv kBool (was27||(sEq (rd (⟨#[]⟩:BA) (rd ([]:List BA) r6.2 i9) k48) ((rd zObject m1.Objects (Int.tmod (w64 raw1) (m1.Objects.length:Int))).Id))))),(20,(.tv kBool false)),(21,(.tv (kInt .i64) (w64 (k48+(1:Int)))))] ⟨R,R,R,R,R,R,R,R,R,R,R,R,R,trivial⟩ (At.r ⟨(was27||(sEq (rd (⟨#[]⟩:BA) (rd ([]:List BA) r6.2 i9) k48) ((rd zObject m1.Objects (Int.tmod (w64 raw1) (m1.Objects.length:Int))).Id))),(w64 (k48+(1:Int))),hF,R,R⟩)
            ·replace hF:=W.ite_f hb60 hF
             refine At.exit ?_
             refine At.x (At.x ?_)
             refine At.h ?_
             refine At.vl ?_
             refine At.w [0,1,2,3,4,5,6] R [(2,(.tv kStr id1)),(3,(.eq (.pointer (some ⟨g1,0,none⟩)))),(7,(.tv kBool r1)),(8,(.eq (.pointer (some ⟨g3,0,none⟩)))),(10,(.eq (.pointer (some ⟨g5,0,none⟩)))),(14,(.eq v1)),(15,(.eq v2)),(16,(.eq v3)),(17,(.eq v4)),(18,(.tv (kInt .i64) i9)),(19,(.tv kBool was27)),(20,(.tv kBool false))] ⟨R,R,R,R,R,R,R,R,R,R,R,R,trivial⟩ (At.r ⟨was27,hF,R,R⟩)
          ·rintro _ _ ⟨was24,hF,rfl,rfl⟩
           unfold Jr.c4 at hF
           refine At.cut (fun rs L=>∃ (is24:Bool),Jr.c5 (Jr.c3 i9 (W.iter1 (Jr.l1 m1 raw1 id1 r6 r7 (Jr.c2 m1 r1 r5)) m2)) was24 is24 Q∧rs=[.box g1 24 kMap m1,.box g3 59 kObject (rd zObject m1.Objects (Int.tmod (w64 raw1) (m1.Objects.length:Int))),.box g5 24 kMap r5.1,.row v1 39 kSegment r6.1,.row v2 41 (kSlice kStr) r6.2,.row v3 39 kSegment r7.1,.row v4 41 (kSlice kStr) r7.2]∧L=mkL [(2,(.tv kStr id1)),(3,(.eq (.pointer (some ⟨g1,0,none⟩)))),(7,(.tv kBool r1)),(8,(.eq (.pointer (some ⟨g3,0,none⟩)))),(10,(.eq (.pointer (some ⟨g5,0,none⟩)))),(14,(.eq v1)),(15,(.eq v2)),(16,(.eq v3)),(17,(.eq v4)),(18,(.tv (kInt .i64) i9)),(19,(.tv kBool was24)),(20,(.tv kBool is24))]) ?_ ?_
           ·refine At.seq (At.region (At.d R R R R (jd (x:=(.tv (kInt .i64) (0:Int))) (ji _ _)) ?_))
            refine At.done (At.vl (At.block ?_))
            obtain ⟨n1,hF⟩:=hF
            refine At.w [0,1,2,3,4,5,6] R [(2,(.tv kStr id1)),(3,(.eq (.pointer (some ⟨g1,0,none⟩)))),(7,(.tv kBool r1)),(8,(.eq (.pointer (some ⟨g3,0,none⟩)))),(10,(.eq (.pointer (some ⟨g5,0,none⟩)))),(14,(.eq v1)),(15,(.eq v2)),(16,(.eq v3)),(17,(.eq v4)),(18,(.tv (kInt .i64) i9)),(19,(.tv kBool was24)),(20,(.tv kBool false)),(22,(.tv (kInt .i64) (0:Int)))] ⟨R,R,R,R,R,R,R,R,R,R,R,R,R,trivial⟩ ?_
            refine At.loop (fun m rs L=>∃ (is27:Bool) (k45:Int),W.iter2 (Jr.l2 id1 r7 i9 (Jr.c5 (Jr.c3 i9 (W.iter1 (Jr.l1 m1 raw1 id1 r6 r7 (Jr.c2 m1 r1 r5)) m2)) was24)) m is27 k45 Q∧rs=[.box g1 24 kMap m1,.box g3 59 kObject (rd zObject m1.Objects (Int.tmod (w64 raw1) (m1.Objects.length:Int))),.box g5 24 kMap r5.1,.row v1 39 kSegment r6.1,.row v2 41 (kSlice kStr) r6.2,.row v3 39 kSegment r7.1,.row v4 41 (kSlice kStr) r7.2]∧L=mkL [(2,(.tv kStr id1)),(3,(.eq (.pointer (some ⟨g1,0,none⟩)))),(7,(.tv kBool r1)),(8,(.eq (.pointer (some ⟨g3,0,none⟩)))),(10,(.eq (.pointer (some ⟨g5,0,none⟩)))),(14,(.eq v1)),(15,(.eq v2)),(16,(.eq v3)),(17,(.eq v4)),(18,(.tv (kInt .i64) i9)),(19,(.tv kBool was24)),(20,(.tv kBool is27)),(22,(.tv (kInt .i64) k45))]) ?_ ?_ (m:=n1) ⟨false,(0:Int),hF,R,R⟩
            ·rintro rs L ⟨_,_,hF,_,_⟩;exact hF
            ·rintro m3 _ _ ⟨is27,k45,hF,rfl,rfl⟩
             replace hF:=W.iter2_s hF
             unfold Jr.l2 at hF
             refine At.seq (At.seq (At.region (At.d R R R R (jb (x:=(.tv (kInt .i64) k45)) (ja R)) ?_)))
             refine At.d R R R R (jb (x:=(.eq v4)) (ja R)) ?_
             refine At.d R R R R (jb (x:=(.tv (kInt .i64) i9)) (ja R)) ?_
             obtain ⟨hq145,hF⟩:=hF
             refine At.d R R R R (does_idx_row (ja R) 6 R (ja R) Tryz.underlying28 ty_41 hq145) ?_
             obtain ⟨hq146,hF⟩:=hF
             refine At.d R R R R (Jh (ja R) 6 R i9 0 R ([]:List BA) hq146 (Sub.self (kSlice kStr)) ty_41) ?_
             refine At.d R R R R (jt (ja R) Tryz.underlying41) ?_
             refine At.d R R R R (jk (ja R) (ja R) vg) ?_
             refine At.done (At.vl ?_)
             refine At.cond (ja R) (fun hb57=>?_) (fun hb57=>?_)
             ·replace hF:=W.ite_t hb57 hF
              refine At.skip (At.vl (At.seq (At.block (At.region (At.d R R R R (jb (x:=(.tv kBool is27)) (ja R)) ?_)))))
              refine At.d R R R R (jb (x:=(.tv kBool is27)) (ja R)) ?_
              refine At.vn R R R R (jx R) R (fun hg346=>(jb (x:=(.eq v4)) (ja R))) ?_
              refine At.vn R R R R (jx R) R (fun hg347=>(jb (x:=(.tv (kInt .i64) i9)) (ja R))) ?_
              obtain ⟨hq147,hF⟩:=hF
              refine At.vn R R R R (jx R) R (fun hg348=>(does_idx_row (jh R hg348) 6 R (jh R hg348) Tryz.underlying28 ty_41 (hq147 hg348))) ?_
              obtain ⟨hq148,hF⟩:=hF
              refine At.vn R R R R (jx R) R (fun hg349=>(Jh (jh R hg349) 6 R i9 0 R ([]:List BA) (hq148 hg349) (Sub.self (kSlice kStr)) ty_41)) ?_
              refine At.vn R R R R (jx R) R (fun hg350=>(jb (x:=(.tv (kInt .i64) k45)) (ja R))) ?_
              obtain ⟨hq149,hF⟩:=hF
              refine At.vn R R R R (jx R) R (fun hg351=>(vj (⟨#[]⟩:BA) (jh R hg351) (jh R hg351) Tryz.underlying41 ty_9 (hq149 hg351))) ?_
              refine At.vn R R R R (jx R) R (fun hg352=>(vw (K:=kStr) (jh R hg352) ty_9)) ?_
              refine At.vn R R R R (jx R) R (fun hg353=>(jb (x:=(.tv kStr id1)) (ja R))) ?_
              refine At.vn R R R R (jx R) R (fun hg354=>(jk (jh R hg354) (jh R hg354) bin_seql)) ?_
              refine At.d R R R R (jm (ja R) (jl _) (ja R) vi) ?_
              refine At.d R R R R (jd (x:=(.tv kBool (is27||(sEq (rd (⟨#[]⟩:BA) (rd ([]:List BA) r7.2 i9) k45) id1)))) (ja R)) ?_
              refine At.done ?_
              refine At.n ?_
              refine At.vl (At.region (At.d R R R R (jb (x:=(.tv (kInt .i64) k45)) (ja R)) ?_))
              refine At.d R R R R (jk (ja R) (ji _ _) vf) ?_
              refine At.d R R R R (jd (x:=(.tv (kInt .i64) (w64 (k45+(1:Int))))) (ja R)) ?_
              refine At.done (At.vl ?_)
              refine At.w [0,1,2,3,4,5,6] R [(2,(.tv kStr id1)),(3,(.eq (.pointer (some ⟨g1,0,none⟩)))),(7,(.tv kBool r1)),(8,(.eq (.pointer (some ⟨g3,0,none⟩)))),(10,(.eq (.pointer (some ⟨g5,0,none⟩)))),(14,(.eq v1)),(15,(.eq v2)),(16,(.eq v3)),(17,(.eq v4)),(18,(.tv (kInt .i64) i9)),(19,(.tv kBool was24)),(20,(.tv kBool (is27||(sEq (rd (⟨#[]⟩:BA) (rd ([]:List BA) r7.2 i9) k45) id1)))),(22,(.tv (kInt .i64) (w64 (k45+(1:Int)))))] ⟨R,R,R,R,R,R,R,R,R,R,R,R,R,trivial⟩ (At.r ⟨(is27||(sEq (rd (⟨#[]⟩:BA) (rd ([]:List BA) r7.2 i9) k45) id1)),(w64 (k45+(1:Int))),hF,R,R⟩)
             ·replace hF:=W.ite_f hb57 hF
              refine At.exit ?_
              refine At.x (At.x ?_)
              refine At.h ?_
              refine At.vl ?_
              refine At.w [0,1,2,3,4,5,6] R [(2,(.tv kStr id1)),(3,(.eq (.pointer (some ⟨g1,0,none⟩)))),(7,(.tv kBool r1)),(8,(.eq (.pointer (some ⟨g3,0,none⟩)))),(10,(.eq (.pointer (some ⟨g5,0,none⟩)))),(14,(.eq v1)),(15,(.eq v2)),(16,(.eq v3)),(17,(.eq v4)),(18,(.tv (kInt .i64) i9)),(19,(.tv kBool was24)),(20,(.tv kBool is27))] ⟨R,R,R,R,R,R,R,R,R,R,R,R,trivial⟩ (At.r ⟨is27,hF,R,R⟩)
           ·rintro _ _ ⟨is24,hF,rfl,rfl⟩
            unfold Jr.c5 at hF
            refine At.seq (At.region (At.d R R R R (jb (x:=(.tv kBool was24)) (ja R)) ?_))
            refine At.d R R R R (jb (x:=(.tv kBool is24)) (ja R)) ?_
            refine At.d R R R R (jk (ja R) (ja R) (bin_bneq (by kernel_rfl))) ?_
            refine At.done (At.vl ?_)
            refine At.cond (ja R) (fun hb54=>?_) (fun hb54=>?_)
            ·replace hF:=W.ite_t hb54 hF
             refine At.seq (At.region (At.d R R R R (jd (x:=(.tv kBool false)) (jl _)) ?_))
             refine At.done (At.vl (At.ret ?_))
             refine At.q ?_
             refine At.vm (At.vm ?_)
             refine At.q ?_
             refine At.vm ?_
             exact At.j rfl (rv_tmp rfl) [] rfl ⟨false,hF,rfl,rfl⟩
            ·replace hF:=W.ite_f hb54 hF
             refine At.skip ?_
             refine At.n ?_
             refine At.vl ?_
             refine At.w [0,1,2,3,4,5,6] R [(2,(.tv kStr id1)),(3,(.eq (.pointer (some ⟨g1,0,none⟩)))),(7,(.tv kBool r1)),(8,(.eq (.pointer (some ⟨g3,0,none⟩)))),(10,(.eq (.pointer (some ⟨g5,0,none⟩)))),(14,(.eq v1)),(15,(.eq v2)),(16,(.eq v3)),(17,(.eq v4)),(18,(.tv (kInt .i64) i9))] ⟨R,R,R,R,R,R,R,R,R,R,trivial⟩ (At.r ⟨(),hF,R,R⟩)
        ·rintro _ _ ⟨_,hF,rfl,rfl⟩
         unfold Jr.c3 at hF
         refine At.region (At.d R R R R (jb (x:=(.tv (kInt .i64) i9)) (ja R)) ?_)
         refine At.d R R R R (jk (ja R) (ji _ _) vf) ?_
         refine At.d R R R R (jd (x:=(.tv (kInt .i64) (w64 (i9+(1:Int))))) (ja R)) ?_
         refine At.done (At.vl ?_)
         refine At.w [0,1,2,3,4,5,6] R [(2,(.tv kStr id1)),(3,(.eq (.pointer (some ⟨g1,0,none⟩)))),(7,(.tv kBool r1)),(8,(.eq (.pointer (some ⟨g3,0,none⟩)))),(10,(.eq (.pointer (some ⟨g5,0,none⟩)))),(14,(.eq v1)),(15,(.eq v2)),(16,(.eq v3)),(17,(.eq v4)),(18,(.tv (kInt .i64) (w64 (i9+(1:Int)))))] ⟨R,R,R,R,R,R,R,R,R,R,trivial⟩ (At.r ⟨(w64 (i9+(1:Int))),hF,R,R⟩)
       ·replace hF:=W.ite_f hb42 hF
        refine At.exit ?_
        refine At.x (At.x ?_)
        refine At.h ?_
        refine At.vl ?_
        refine At.w [0,2] R [(3,(.eq (.pointer (some ⟨g1,0,none⟩)))),(7,(.tv kBool r1)),(10,(.eq (.pointer (some ⟨g5,0,none⟩))))] ⟨R,R,R,trivial⟩ (At.r ⟨(),hF,R,R⟩)
     ·rintro _ _ ⟨_,hF,rfl,rfl⟩
      unfold Jr.c2 at hF
      refine At.seq (At.region (At.d R R R R (jb (x:=(.tv kBool r1)) (ja R)) ?_))
      refine At.d R R R R (jb (x:=(.tv kBool r1)) (ja R)) ?_
      refine At.vn R R R R (jw R) R (fun hg131=>(jc (ja R) 0 R (Sub.self kMap) ty_24)) ?_
      replace hF:=W.vq hF
      refine At.effG R R R R (jw R) hF (fun r=>.tv (kSlice kViolation) r) (fun hg132 hF=>eff_own1 R R (vr (jo R R (jq R en_16 (jf (jh R hg132) jg)) [] R (Jq.ok hF)) (by rintro _ _ ⟨_,_,⟨r,u,hF,rfl,rfl⟩,rfl,rfl⟩;exact ⟨r,u,hF,R,R⟩))) (fun r8 hF=>?_)
      refine At.vn R R R R (jw R) R (fun hg133=>(jt (jh R hg133) Tryz.underlying33)) ?_
      refine At.vn R R R R (jw R) R (fun hg134=>(jk (jh R hg134) (ji _ _) bin_gtr)) ?_
      refine At.vn R R R R (jw R) R (fun hg135=>(jb (x:=(.tv kBool (decide ((0:Int)<(r8.length:Int))))) (jh R hg135))) ?_
      refine At.vn R R R R (jv R) R (fun hg136=>(jc (ja R) 1 R (Sub.self kMap) ty_24)) ?_
      replace hF:=W.vq hF
      refine At.effG R R R R (jv R) hF (fun r=>.tv (kSlice kViolation) r) (fun hg137 hF=>eff_own1 R R (vr (jo R R (jq R en_16 (jf (jh R hg137) jg)) [] R (Jq.ok hF)) (by rintro _ _ ⟨_,_,⟨r,u,hF,rfl,rfl⟩,rfl,rfl⟩;exact ⟨r,u,hF,R,R⟩))) (fun r9 hF=>?_)
      refine At.vn R R R R (jv R) R (fun hg138=>(jt (jh R hg138) Tryz.underlying33)) ?_
      refine At.vn R R R R (jv R) R (fun hg139=>(jk (jh R hg139) (ji _ _) bin_eql)) ?_
      refine At.vn R R R R (jw R) R (fun hg140=>(jm (jh R hg140) (jl _) (ja R) (pick_orG (andn_of hg140)))) ?_
      refine At.d R R R R (jm (ja R) (ja R) (jl _) vh) ?_
      refine At.d R R R R (jd (x:=(.tv kBool (r1&&((decide ((0:Int)<(r8.length:Int)))||((r9.length:Int)==(0:Int)))))) (ja R)) ?_
      refine At.done (At.vl (At.ret ?_))
      exact At.j rfl (rv_tmp rfl) [] rfl ⟨(r1&&((decide ((0:Int)<(r8.length:Int)))||((r9.length:Int)==(0:Int)))),hF,rfl,rfl⟩
end Go.Gp.Gb
end
section
set_option linter.unusedVariables false
set_option linter.unusedSimpArgs false
set_option maxRecDepth 100000
namespace Go.Proofs.YtfophhmfbofjiaaGreat.borderShared
open Go.ChangeShapes Go.WideShapes Go.ChangeAt Go.RowKit Go.Gp Go.Gp.Gb
theorem own:ownKnob Tryz.prog.godebug=none:=by kernel_rfl
theorem laidOut:laidOutB Tryz.prog=true:=by kernel_rfl
set_option maxRecDepth 100000 in
theorem lifted (pure:∀ (x0:Map) (x1:Int) (x2:ByteArray),ok_Map x0→(okI .u8) x1→okS x2→Jr.F x0 x1 x2 (fun r=>r=true)) (os:Os) (started:os.Started) (H:Type) (enc:TypeId×Value→H) :
  ReturnsInHanded {} Tryz.checked os 8 .any (Rows.borderSharedSpec.pre6 enc Tryz.prog Tryz.f8 Rows.borderSharedRow.domain false) (Rows.borderSharedSpec.post enc Tryz.prog Tryz.f8 false true false false):=by
 refine returnsInHanded_of_change (C:=Tryz.checked) own started (by kernel_rfl) Tryz.func8
  (ChangeSpec.witness6 (enc:=enc) (C:=Tryz.checked) false ⟨#[],#[.agg #[.slice none 0 0],.int .u8 0,.string ⟨#[]⟩],[]⟩ 8 (by kernel_rfl) (by kernel_rfl) (by kernel_rfl) (by kernel_rfl)) ?_
 intro W base args ds gs before hval0 hW hcnd _
 have hval:∀ (j:Nat) t v,Tryz.f8.params[j]?=some t→args[j]?=some v→Value.okWide Tryz.prog W .any base t v:=hval0
 have hW':=hW
 obtain ⟨p,q,hA0,hV,rfl,hfz,hnd⟩:=hW
 have hA:DataW.TrodAll enc Tryz.prog W 0 (fun _=>true) true Tryz.f8.params.toList args.toList ds p:=hA0
 rw [Tryz.params8] at hA hval
 obtain ⟨v0,vs0,d0,ds0,p0,q0,hargs,rfl,rfl,h0,r0⟩:=trodAll_cons hA
 obtain ⟨v1,vs1,d1,ds1,p1,q1,rfl,rfl,rfl,h1,r1⟩:=trodAll_cons r0
 obtain ⟨v2,vs2,d2,ds2,p2,q2,rfl,rfl,rfl,h2,r2⟩:=trodAll_cons r1
 obtain ⟨rfl,rfl,rfl⟩:=trodAll_nil r2
 obtain rfl:args=#[v0,v1,v2]:=by cases args;simp_all
 obtain ⟨rfl,rfl⟩:=trodVars_none hV
 obtain ⟨x0,hx0,ok0⟩:=opens_arg op_24 h0 (let ⟨cs,e,_⟩:=okWide_struct Tryz.underlying24 (hval 0 24 v0 rfl rfl);⟨cs,e⟩)
 have lt0:∀ x∈p0,x.block<W.heap.size:=by obtain ⟨m,hm⟩:=h0;exact DataW.trod_lt m _ _ _ hm
 obtain ⟨x1,hx1,ok1⟩:=opens_arg (opens_int Tryz.underlying5) h1 (by obtain ⟨n,rfl⟩:=okWide_int Tryz.underlying5 (hval 1 5 v1 rfl rfl);rfl)
 have lt1:∀ x∈p1,x.block<W.heap.size:=by obtain ⟨m,hm⟩:=h1;exact DataW.trod_lt m _ _ _ hm
 obtain ⟨x2,hx2,ok2⟩:=opens_arg (opens_str Tryz.underlying9) h2 (by obtain ⟨n,rfl⟩:=okWide_string Tryz.underlying9 (hval 2 9 v2 rfl rfl);rfl)
 have lt2:∀ x∈p2,x.block<W.heap.size:=by obtain ⟨m,hm⟩:=h2;exact DataW.trod_lt m _ _ _ hm
 refine (law_walk (Jr.ok (pure x0 x1 x2 ok0 ok1 ok2)) (.cons hx0 (.cons hx1 (.cons hx2 .nil)))).mono fun e W' ⟨he,bel⟩=>?_
 subst he
 exact ⟨_,rfl,_,_,_,[],_,[],hW',trodAll_mk1 (shut_bool Tryz.underlying4 _),(trodAll_cons_mk (Below.trod laidOut (by kernel_rfl) (of_decide_eq_true (by kernel_rfl)) h0 bel lt0) (trodAll_cons_mk (Below.trod laidOut (by kernel_rfl) (of_decide_eq_true (by kernel_rfl)) h1 bel lt1) (trodAll_cons_mk (Below.trod laidOut (by kernel_rfl) (of_decide_eq_true (by kernel_rfl)) h2 bel lt2) trodAll_mk0))),rfl,bel.frame _,fun h=>by cases h⟩
theorem over (pure:∀ (x0:Map) (x1:Int) (x2:ByteArray),ok_Map x0→(okI .u8) x1→okS x2→Jr.F x0 x1 x2 (fun r=>r=true)):Rows.borderSharedRow.holds Tryz.pinned (OpenSpec.ofChange Rows.borderSharedSpec):=
 OpenClaim.holds_of_wide 8 Tryz.f8 rfl rfl rfl rfl rfl rfl rfl ⟨rfl,rfl,rfl,rfl,rfl⟩ rfl rfl rfl rfl rfl (by kernel_rfl) Tryz.func8 (by kernel_rfl)
  (of_decide_eq_true (by kernel_rfl)) (by unfold Func.isWrapper;first | (rw [if_pos (by decide +kernel)];kernel_rfl) | (rw [if_neg (by decide +kernel)];exact ⟨rfl,rfl⟩))
  (fun os started H enc _=>lifted pure os started H enc)
end Go.Proofs.YtfophhmfbofjiaaGreat.borderShared
end
section
set_option linter.unusedVariables false
set_option linter.unusedSimpArgs false
namespace Go.Gp
theorem W.ite_iff {α:Type} {b:Bool} {x y:W α} {Q:α→Prop}:W.ite b x y Q↔(b=true→x Q)∧(b=false→y Q):=by
 cases b<;>simp [W.ite]
theorem W.ite_i {α:Type} {b:Bool} {x y:W α} {Q:α→Prop} (h1:b=true→x Q) (h2:b=false→y Q):W.ite b x y Q:=W.ite_iff.2 ⟨h1,h2⟩
theorem W.dec_i {α:Type} {p:Prop} [Decidable p] {x y:W α} {Q:α→Prop} (h1:p→x Q) (h2:¬ p→y Q):W.ite (decide p) x y Q:=W.ite_iff.2 ⟨fun h=>h1 (of_decide_eq_true h),fun h=>h2 (of_decide_eq_false h)⟩
theorem W.req_i {α:Type} {p:Prop} {m:W α} {Q:α→Prop} (h1:p) (h2:m Q):W.req p m Q:=⟨h1,h2⟩
theorem W.bind_i {α β:Type} {m:W α} {f:α→W β} {Q:β→Prop} (h:m (fun x=>f x Q)):W.bind m f Q:=h
theorem W.ite_same {α:Type} {b:Bool} {x y:W α} {Q:α→Prop} (h1:x Q) (h2:y Q):W.ite b x y Q:=W.ite_i (fun _=>h1) (fun _=>h2)
theorem W.loop1 {A R:Type} {B:(A→W R)→A→W R} {Q:R→Prop} (I:A→Prop) (m:A→Nat) (step:∀ K x,I x→(∀ y,I y→m y<m x→K y Q)→B K x Q) {x:A} (h:I x):(W.ex fun n=>W.iter1 B n x) Q:=by
 have key:∀ n x,I x→m x<n→W.iter1 B n x Q:=by
  intro n
  induction n with
  | zero=>intro x _ hm;omega
  | succ n ih=>intro x hx hm;exact step _ x hx fun y hy hlt=>ih y hy (by omega)
 exact ⟨m x+1,key _ x h (by omega)⟩
theorem W.loop2 {A C R:Type} {B:(A→C→W R)→A→C→W R} {Q:R→Prop} (I:A→C→Prop) (m:A→C→Nat) (step:∀ K x u,I x u→(∀ y v,I y v→m y v<m x u→K y v Q)→B K x u Q) {x:A} {u:C} (h:I x u):(W.ex fun n=>W.iter2 B n x u) Q:=by
 have key:∀ n x u,I x u→m x u<n→W.iter2 B n x u Q:=by
  intro n
  induction n with
  | zero=>intro x u _ hm;omega
  | succ n ih=>intro x u hx hm;exact step _ x u hx fun y v hy hlt=>ih y v hy (by omega)
 exact ⟨m x u+1,key _ x u h (by omega)⟩
theorem W.loop3 {A C D R:Type} {B:(A→C→D→W R)→A→C→D→W R} {Q:R→Prop} (I:A→C→D→Prop) (m:A→C→D→Nat) (step:∀ K x u s,I x u s→(∀ y v t,I y v t→m y v t<m x u s→K y v t Q)→B K x u s Q) {x:A} {u:C} {s:D} (h:I x u s):(W.ex fun n=>W.iter3 B n x u s) Q:=by
 have key:∀ n x u s,I x u s→m x u s<n→W.iter3 B n x u s Q:=by
  intro n
  induction n with
  | zero=>intro x u s _ hm;omega
  | succ n ih=>intro x u s hx hm;exact step _ x u s hx fun y v t hy hlt=>ih y v t hy (by omega)
 exact ⟨m x u s+1,key _ x u s h (by omega)⟩
theorem W.up1 {R:Type} {B:(Int→W R)→Int→W R} {Q:R→Prop} (n:Nat) (I:Nat→Prop) (h0:I 0) (step:∀ (K:Int→W R) (i:Nat),i≤n→I i→(i<n→I (i+1)→K ((i+1:Nat):Int) Q)→B K (i:Int) Q):(W.ex fun m=>W.iter1 B m (0:Int)) Q:=
 W.loop1 (fun x:Int=>∃ i:Nat,x=(i:Int)∧i≤n∧I i) (fun x=>n-x.toNat) (fun K x ⟨i,e,hi,hI⟩ hk=>by
  subst e
  exact step K i hi hI fun hl hI2=>hk _ ⟨i+1,rfl,hl,hI2⟩ (by omega)) ⟨0,rfl,Nat.zero_le _,h0⟩
theorem W.up2 {S R:Type} {B:(S→Int→W R)→S→Int→W R} {Q:R→Prop} (n:Nat) (I:Nat→S→Prop) {s0:S} (h0:I 0 s0) (step:∀ (K:S→Int→W R) (i:Nat) (s:S),i≤n→I i s→(i<n→∀ s',I (i+1) s'→K s' ((i+1:Nat):Int) Q)→B K s (i:Int) Q):(W.ex fun m=>W.iter2 B m s0 (0:Int)) Q:=
 W.loop2 (fun s (x:Int)=>∃ i:Nat,x=(i:Int)∧i≤n∧I i s) (fun s x=>n-x.toNat) (fun K s x ⟨i,e,hi,hI⟩ hk=>by
  subst e
  exact step K i s hi hI fun hl s' hI2=>hk s' _ ⟨i+1,rfl,hl,hI2⟩ (by omega)) ⟨0,rfl,Nat.zero_le _,h0⟩
theorem W.up3 {S T R:Type} {B:(S→T→Int→W R)→S→T→Int→W R} {Q:R→Prop} (n:Nat) (I:Nat→S→T→Prop) {s0:S} {t0:T} (h0:I 0 s0 t0) (step:∀ (K:S→T→Int→W R) (i:Nat) (s:S) (t:T),i≤n→I i s t→(i<n→∀ s' t',I (i+1) s' t'→K s' t' ((i+1:Nat):Int) Q)→B K s t (i:Int) Q):(W.ex fun m=>W.iter3 B m s0 t0 (0:Int)) Q:=
 W.loop3 (fun s t (x:Int)=>∃ i:Nat,x=(i:Int)∧i≤n∧I i s t) (fun s t x=>n-x.toNat) (fun K s t x ⟨i,e,hi,hI⟩ hk=>by
  subst e
  exact step K i s t hi hI fun hl s' t' hI2=>hk s' t' _ ⟨i+1,rfl,hl,hI2⟩ (by omega)) ⟨0,rfl,Nat.zero_le _,h0⟩
theorem w64_id {x:Int} (h1:-9223372036854775808≤x) (h2:x≤9223372036854775807):w64 x=x:=by
 simp [w64,IntKind.wrap,IntKind.bits,IntKind.signed]
 omega
theorem w64_succ {i:Nat} (h:i<9223372036854775807):w64 ((i:Int)+(1:Int))=((i+1:Nat):Int):=by
 rw [w64_id (by omega) (by omega)];omega
theorem maxLen_val:maxLen=9223372036854775807:=rfl
theorem bl_irr:∀ a:List UInt8,Op.bytesLess a a=false
 | []=>rfl
 | x::a=>by simp [Op.bytesLess,bl_irr a]
theorem bl_trans:∀ a b c:List UInt8,Op.bytesLess a b=true→Op.bytesLess b c=true→Op.bytesLess a c=true
 | _,[],_,h,_=>by simp [Op.bytesLess] at h
 | _,_::_,[],_,h=>by simp [Op.bytesLess] at h
 | [],_::_,_::_,_,_=>rfl
 | x::a,y::b,z::c,h,k=>by
  simp only [Op.bytesLess,Bool.or_eq_true,decide_eq_true_eq,Bool.and_eq_true,beq_iff_eq] at h k ⊢
  rcases h with h | ⟨rfl,h⟩
  ·rcases k with k | ⟨rfl,k⟩
   ·exact .inl (UInt8.lt_trans h k)
   ·exact .inl h
  ·rcases k with k | ⟨rfl,k⟩
   ·exact .inl k
   ·exact .inr ⟨rfl,bl_trans a b c h k⟩
theorem bl_tri:∀ a b:List UInt8,Op.bytesLess a b=true∨a=b∨Op.bytesLess b a=true
 | [],[]=>.inr (.inl rfl)
 | [],_::_=>.inl rfl
 | _::_,[]=>.inr (.inr rfl)
 | x::a,y::b=>by
  simp only [Op.bytesLess,Bool.or_eq_true,decide_eq_true_eq,Bool.and_eq_true,beq_iff_eq]
  rcases Nat.lt_trichotomy x.toNat y.toNat with h | h | h
  ·exact .inl (.inl (UInt8.lt_iff_toNat_lt.2 h))
  ·have e:x=y:=UInt8.toNat_inj.1 h
   subst e
   rcases bl_tri a b with h | rfl | h
   ·exact .inl (.inr ⟨rfl,h⟩)
   ·exact .inr (.inl rfl)
   ·exact .inr (.inr (.inr ⟨rfl,h⟩))
  ·exact .inr (.inr (.inl (UInt8.lt_iff_toNat_lt.2 h)))
theorem sLt_irr (a:ByteArray):sLt a a=false:=bl_irr _
theorem sLt_trans {a b c:ByteArray} (h:sLt a b=true) (k:sLt b c=true):sLt a c=true:=bl_trans _ _ _ h k
theorem sEq_eq {a b:ByteArray}:(sEq a b=true)=(a=b):=propext (sEq_iff a b)
theorem sEq_self (a:ByteArray):sEq a a=true:=(sEq_iff a a).2 rfl
theorem sEq_false {a b:ByteArray}:(sEq a b=false)=(a≠b):=by
 rw [← Bool.not_eq_true,sEq_eq]
theorem toList_inj {a b:ByteArray} (h:a.toList=b.toList):a=b:=(sEq_iff a b).1 (by simp [sEq,h])
theorem sLt_tri (a b:ByteArray):sLt a b=true∨a=b∨sLt b a=true:=by
 rcases bl_tri a.toList b.toList with h | h | h
 ·exact .inl h
 ·exact .inr (.inl (toList_inj h))
 ·exact .inr (.inr h)
theorem sLt_asymm {a b:ByteArray} (h:sLt a b=true):sLt b a=false:=by
 cases k:sLt b a with
 | false=>rfl
 | true=>have:=sLt_trans h k;rw [sLt_irr] at this;cases this
theorem sLt_ne {a b:ByteArray} (h:sLt a b=true):a≠b:=fun e=>by rw [e,sLt_irr] at h;cases h
theorem sLe_not {a b:ByteArray}:((sLt b a||sEq b a)=false)=(sLt a b=true):=by
 apply propext
 rw [Bool.or_eq_false_iff,sEq_false]
 constructor
 ·rintro ⟨h1,h2⟩
  rcases sLt_tri a b with h | h | h
  ·exact h
  ·exact absurd h.symm h2
  ·rw [h1] at h;cases h
 ·intro h
  exact ⟨sLt_asymm h,fun e=>sLt_ne h e.symm⟩
theorem sLe_is {a b:ByteArray}:((sLt b a||sEq b a)=true)=(sLt a b=false):=by
 apply propext
 rw [← Bool.not_eq_false,sLe_not,Bool.not_eq_true]
theorem sLe_eq {a b:ByteArray}:(sLt a b||sEq a b)=!(sLt b a):=by
 cases h:sLt b a with
 | true=>exact sLe_not.mpr h
 | false=>exact sLe_is.mpr h
theorem size_toList (a:ByteArray):a.toList=a.data.toList:=ByteArray.toList_eq a
theorem sLt_empty {a:ByteArray} (h:a≠⟨#[]⟩):sLt ⟨#[]⟩ a=true:=by
 rcases sLt_tri ⟨#[]⟩ a with k | k | k
 ·exact k
 ·exact absurd k.symm h
 ·exfalso
  unfold sLt at k
  have e:(⟨#[]⟩:ByteArray).toList=[]:=by rw [size_toList]
  rw [e] at k
  cases hh:a.toList<;>rw [hh] at k<;>cases k
theorem rd_nat {α:Type} {z:α} {xs:List α} {i:Nat} (h:i<xs.length):rd z xs (i:Int)=xs[i]:=by
 simp [rd,h]
theorem mget_mset {κ ν:Type} [DecidableEq κ] (k k':κ) (z v:ν):∀ m:List (κ×ν),mget k z (mset k' v m)=if k'=k then v else mget k z m
 | []=>by simp only [mset,mget]
 | (a,x)::m=>by
  simp only [mset]
  by_cases h:a=k'
  ·subst h
   by_cases h2:a=k
   ·simp [mget,h2]
   ·simp [mget,h2]
  ·simp only [if_neg h,mget,mget_mset k k' z v m]
   by_cases h2:a=k
   ·subst h2;simp [Ne.symm h]
   ·simp [h2]
end Go.Gp
end
section
set_option linter.unusedVariables false
set_option linter.unusedSimpArgs false
set_option maxRecDepth 100000
namespace Go.Gp.Gb
open Go.Proofs
def ref08_letter.F (c1:Int):W Bool:=W.ret (((decide ((97:Int)≤c1))&&(decide (c1≤(122:Int))))||((decide ((65:Int)≤c1))&&(decide (c1≤(90:Int)))))
def ref08_digit.F (c1:Int):W Bool:=W.ret ((decide ((48:Int)≤c1))&&(decide (c1≤(57:Int))))
def ref08_word.F (c1:Int):W Bool:=W.bind (ref08_letter.F c1) (fun r1=>W.bind (W.ite (!r1) (ref08_digit.F c1) (W.ret false)) (fun r2=>W.ret ((r1||r2)||(c1==(95:Int)))))
def yp.c1 (s1:BA):W Bool:=W.req (((decide ((0:Int)<(s1.size:Int)))&&(decide ((s1.size:Int)≤(24:Int))))=true→0≤(0:Int)∧(0:Int)<(s1.size:Int)) (W.bind (W.ite ((decide ((0:Int)<(s1.size:Int)))&&(decide ((s1.size:Int)≤(24:Int)))) (ref08_letter.F (byteAt s1 (0:Int))) (W.ret false)) (fun r3=>W.ret (((decide ((0:Int)<(s1.size:Int)))&&(decide ((s1.size:Int)≤(24:Int))))&&r3)))
def yp.l1 (s1:BA) (K1:W Bool) (A1:Int→W Bool) (i6:Int):W Bool:=W.ite (decide (i6<(s1.size:Int))) (W.req (0≤i6∧i6<(s1.size:Int)) (W.bind (ref08_word.F (byteAt s1 i6)) (fun r6=>W.ite (!r6) (W.ret false) (A1 (w64 (i6+(1:Int))))))) (K1)
def yp.F (s1:BA):W Bool:=W.ex fun n=>W.iter1 (yp.l1 s1 (yp.c1 s1)) n (0:Int)
def ref11_On.F (p1:Point):W Bool:=W.ret ((((decide ((0:Int)≤p1.X))&&(decide (p1.X<(1048576:Int))))&&(decide ((0:Int)≤p1.Y)))&&(decide (p1.Y<(1048576:Int))))
def zl.c1:W Bool:=W.ret true
def zl.l1 (l1:(List Tag)) (K1:W Bool) (A1:Int→W Bool) (i6:Int):W Bool:=W.ite (decide (i6<(l1.length:Int))) (W.req (0≤i6∧i6<(l1.length:Int)) (W.bind (yp.F ((rd zTag l1 i6).Key)) (fun r5=>W.req ((!(!r5))=true→0≤i6∧i6<(l1.length:Int)) (W.req ((!((!r5)||(decide ((((rd zTag l1 i6).Value).size:Int)<(1:Int)))))=true→0≤i6∧i6<(l1.length:Int)) (W.req (((!(((!r5)||(decide ((((rd zTag l1 i6).Value).size:Int)<(1:Int))))||(decide ((200:Int)<(((rd zTag l1 i6).Value).size:Int)))))&&(decide ((0:Int)<i6)))=true→0≤(w64 (i6-(1:Int)))∧(w64 (i6-(1:Int)))<(l1.length:Int)) (W.req (((!(((!r5)||(decide ((((rd zTag l1 i6).Value).size:Int)<(1:Int))))||(decide ((200:Int)<(((rd zTag l1 i6).Value).size:Int)))))&&(decide ((0:Int)<i6)))=true→0≤i6∧i6<(l1.length:Int)) (W.ite ((((!r5)||(decide ((((rd zTag l1 i6).Value).size:Int)<(1:Int))))||(decide ((200:Int)<(((rd zTag l1 i6).Value).size:Int))))||((decide ((0:Int)<i6))&&(!(sLt ((rd zTag l1 (w64 (i6-(1:Int)))).Key) ((rd zTag l1 i6).Key))))) (W.ret false) (A1 (w64 (i6+(1:Int))))))))))) (K1)
def zl.F (l1:(List Tag)):W Bool:=W.ite (decide ((60:Int)<(l1.length:Int))) (W.ret false) (W.ex fun n=>W.iter1 (zl.l1 l1 (zl.c1)) n (0:Int))
def ref11_Word.F (kind1:Int):W BA:=W.ite ((decide (kind1<(1:Int)))||(decide ((5:Int)<kind1))) (W.ret (⟨#[]⟩:BA)) (W.req (0≤kind1∧kind1<(([(⟨#[]⟩:BA),(⟨#[110,111,100,101]⟩:BA),(⟨#[119,97,121]⟩:BA),(⟨#[97,114,101,97]⟩:BA),(⟨#[114,111,117,116,101]⟩:BA),(⟨#[116,117,114,110]⟩:BA)]:List BA).length:Int)) (W.req (0≤kind1∧kind1<(([(⟨#[]⟩:BA),(⟨#[110,111,100,101]⟩:BA),(⟨#[119,97,121]⟩:BA),(⟨#[97,114,101,97]⟩:BA),(⟨#[114,111,117,116,101]⟩:BA),(⟨#[116,117,114,110]⟩:BA)]:List BA).length:Int)) (W.ret (rd (⟨#[]⟩:BA) ([(⟨#[]⟩:BA),(⟨#[110,111,100,101]⟩:BA),(⟨#[119,97,121]⟩:BA),(⟨#[97,114,101,97]⟩:BA),(⟨#[114,111,117,116,101]⟩:BA),(⟨#[116,117,114,110]⟩:BA)]:List BA) kind1))))
def ref11_refs.c1 (o1:Object):W Bool:=W.ite (o1.Kind==(1:Int)) (W.ret ((o1.Refs.length:Int)==(0:Int))) (W.ite (o1.Kind==(2:Int)) (W.ret (decide ((2:Int)≤(o1.Refs.length:Int)))) (W.ite (o1.Kind==(3:Int)) (W.ret (decide ((3:Int)≤(o1.Refs.length:Int)))) (W.ite (o1.Kind==(4:Int)) (W.ret (decide ((1:Int)≤(o1.Refs.length:Int)))) (W.ret ((o1.Refs.length:Int)==(3:Int))))))
def ref11_refs.l1 (o1:Object) (K1:W Bool) (A1:(List (BA×Bool))→Int→W Bool) (x6:(List (BA×Bool))) (i6:Int):W Bool:=W.ite (decide (i6<(o1.Refs.length:Int))) (W.req (0≤i6∧i6<(o1.Refs.length:Int)) (W.bind (yp.F (rd (⟨#[]⟩:BA) o1.Refs i6)) (fun r5=>W.req (((!(!r5))&&((o1.Kind==(2:Int))&&(decide ((0:Int)<i6))))=true→0≤(w64 (i6-(1:Int)))∧(w64 (i6-(1:Int)))<(o1.Refs.length:Int)) (W.req (((!(!r5))&&((o1.Kind==(2:Int))&&(decide ((0:Int)<i6))))=true→0≤i6∧i6<(o1.Refs.length:Int)) (W.req (((!((!r5)||(((o1.Kind==(2:Int))&&(decide ((0:Int)<i6)))&&(sEq (rd (⟨#[]⟩:BA) o1.Refs (w64 (i6-(1:Int)))) (rd (⟨#[]⟩:BA) o1.Refs i6)))))&&(o1.Kind==(3:Int)))=true→0≤i6∧i6<(o1.Refs.length:Int)) (W.ite (((!r5)||(((o1.Kind==(2:Int))&&(decide ((0:Int)<i6)))&&(sEq (rd (⟨#[]⟩:BA) o1.Refs (w64 (i6-(1:Int)))) (rd (⟨#[]⟩:BA) o1.Refs i6))))||((o1.Kind==(3:Int))&&(mget (rd (⟨#[]⟩:BA) o1.Refs i6) false x6))) (W.ret false) (W.req (0≤i6∧i6<(o1.Refs.length:Int)) (A1 (mset (rd (⟨#[]⟩:BA) o1.Refs i6) true x6) (w64 (i6+(1:Int))))))))))) (K1)
def ref11_refs.F (o1:Object):W Bool:=W.ite (decide ((2000:Int)<(o1.Refs.length:Int))) (W.ret false) (W.ex fun n=>W.iter2 (ref11_refs.l1 o1 (ref11_refs.c1 o1)) n ([]:(List (BA×Bool))) (0:Int))
def zr.c1 (o1:Object) (at1:Bool):W Bool:=W.bind (yp.F o1.Id) (fun r2=>W.bind (W.ite r2 (ref11_Word.F o1.Kind) (W.ret (⟨#[]⟩:BA))) (fun r3=>W.bind (W.ite ((r2&&(!(sEq r3 (⟨#[]⟩:BA))))&&at1) (zl.F o1.Tags) (W.ret false)) (fun r4=>W.bind (W.ite (((r2&&(!(sEq r3 (⟨#[]⟩:BA))))&&at1)&&r4) (ref11_refs.F o1) (W.ret false)) (fun r5=>W.ret ((((r2&&(!(sEq r3 (⟨#[]⟩:BA))))&&at1)&&r4)&&r5)))))
def zr.F (o1:Object):W Bool:=W.bind (ref11_On.F o1.At) (fun r1=>W.ite (o1.Kind != (1:Int)) ((zr.c1 o1) (Vf o1.At (⟨(0:Int),(0:Int)⟩:Point))) ((zr.c1 o1) r1))
def yw.c1:W Bool:=W.ret true
def yw.l1 (m1:Map) (K1:W Bool) (A1:Int→W Bool) (i6:Int):W Bool:=W.ite (decide (i6<(m1.Objects.length:Int))) (W.req (0≤i6∧i6<(m1.Objects.length:Int)) (W.bind (zr.F (rd zObject m1.Objects i6)) (fun r5=>W.req (((!(!r5))&&(decide ((0:Int)<i6)))=true→0≤(w64 (i6-(1:Int)))∧(w64 (i6-(1:Int)))<(m1.Objects.length:Int)) (W.req (((!(!r5))&&(decide ((0:Int)<i6)))=true→0≤i6∧i6<(m1.Objects.length:Int)) (W.ite ((!r5)||((decide ((0:Int)<i6))&&(!(sLt ((rd zObject m1.Objects (w64 (i6-(1:Int)))).Id) ((rd zObject m1.Objects i6).Id))))) (W.ret false) (A1 (w64 (i6+(1:Int))))))))) (K1)
def yw.F (m1:Map):W Bool:=W.ite (decide ((1000000:Int)<(m1.Objects.length:Int))) (W.ret false) (W.ex fun n=>W.iter1 (yw.l1 m1 (yw.c1)) n (0:Int))
end Go.Gp.Gb
end
section
set_option linter.unusedVariables false
set_option linter.unusedSimpArgs false
set_option maxRecDepth 10000
namespace Go.Gp.Gb
def isLetter (b:Int):Bool:=decide (97≤b)&&decide (b≤122)||decide (65≤b)&&decide (b≤90)
def isDigit (b:Int):Bool:=decide (48≤b)&&decide (b≤57)
def isWord (b:Int):Bool:=isLetter b||isDigit b||b==95
def NameOk (s:ByteArray):Prop:=0<s.size∧s.size≤24∧isLetter (byteAt s 0)=true∧∀ i,i<s.size→isWord (byteAt s (i:Int))=true
theorem byteAt_range (s:ByteArray) (i:Int):0≤byteAt s i∧byteAt s i<256:=by
 unfold byteAt
 split
 ·rename_i b _
  have:=b.toNat_lt
  omega
 ·omega
theorem ref08_word_spec {c:Int} {Q:Bool→Prop} (h:Q (isWord c)):ref08_word.F c Q:=by
 show W.bind (W.ite (!(isLetter c)) (ref08_digit.F c) (W.ret false)) (fun r2=>W.ret ((isLetter c||r2)||(c==(95:Int)))) Q
 refine W.ite_i (fun hl=>?_) (fun hl=>?_)
 ·exact h
 ·have e:isLetter c=true:=by simpa using hl
  show Q ((isLetter c||false)||(c==(95:Int)))
  have:isWord c=((isLetter c||false)||(c==(95:Int))):=by simp [isWord,e]
  rwa [this] at h
theorem ref08_Name_spec {s:ByteArray} (hs:s.size≤maxLen) {Q:Bool→Prop} (h1:NameOk s→Q true) (h2:¬ NameOk s→Q false):yp.F s Q:=by
 rw [maxLen_val] at hs
 refine W.up1 s.size (fun i=>∀ j,j<i→isWord (byteAt s (j:Int))=true) (fun j h=>by omega) (fun K i hi hI hk=>?_)
 refine W.dec_i (fun hlt=>W.req_i ⟨by omega,hlt⟩ (ref08_word_spec ?_)) (fun hge=>?_)
 ·refine W.ite_i (fun hw=>?_) (fun hw=>?_)
  ·exact h2 fun hn=>by
    have:=hn.2.2.2 i (by omega)
    rw [this] at hw;cases hw
  ·rw [w64_succ (by omega)]
   refine hk (by omega) fun j hj=>?_
   by_cases e:j=i
   ·subst e;simpa using hw
   ·exact hI j (by omega)
 ·have hie:i=s.size:=by omega
  subst hie
  refine W.req_i (fun hb=>by simp only [Bool.and_eq_true,decide_eq_true_eq] at hb;omega) ?_
  refine W.ite_i (fun hb=>?_) (fun hb=>?_)
  ·simp only [Bool.and_eq_true,decide_eq_true_eq] at hb
   show Q (((decide ((0:Int)<(s.size:Int)))&&(decide ((s.size:Int)≤(24:Int))))&&isLetter (byteAt s 0))
   have e1:decide ((0:Int)<(s.size:Int))=true:=decide_eq_true hb.1
   have e2:decide ((s.size:Int)≤(24:Int))=true:=decide_eq_true hb.2
   rw [e1,e2,Bool.true_and,Bool.true_and]
   cases hl:isLetter (byteAt s 0) with
   | true=>exact h1 ⟨by omega,by omega,hl,hI⟩
   | false=>exact h2 fun hn=>by rw [hn.2.2.1] at hl;cases hl
  ·show Q (((decide ((0:Int)<(s.size:Int)))&&(decide ((s.size:Int)≤(24:Int))))&&false)
   rw [Bool.and_false]
   exact h2 fun hn=>by
    have:(decide ((0:Int)<(s.size:Int))&&decide ((s.size:Int)≤(24:Int)))=true:=by simp only [Bool.and_eq_true,decide_eq_true_eq];have:=hn.1;have:=hn.2.1;omega
    rw [this] at hb;cases hb
structure Cls (x:List Int) (n:Nat):Prop where
 len:x.length=256
 old:∀ j:Nat,j<n→(rd 0 x (j:Int)=3↔isLetter j=true)∧(rd 0 x (j:Int)=4↔isDigit j=true)∧rd 0 x (j:Int)≠5
theorem rd_set {α:Type} {z v:α} {x:List α} {i j:Nat} (hi:i<x.length):rd z (x.set i v) (j:Int)=if j=i then v else rd z x (j:Int):=by
 simp only [rd,Int.toNat_natCast,List.getD_eq_getElem?_getD,List.getElem?_set]
 by_cases e:i=j
 ·subst e;simp [hi]
 ·rw [if_neg e,if_neg (fun h=>e h.symm)]
theorem Cls.set {x:List Int} {n:Nat} (h:Cls x n) (hn:n<256) {v:Int} (h1:v=3↔isLetter n=true) (h2:v=4↔isDigit n=true) (h3:v≠5):Cls (x.set n v) (n+1):=by
 refine ⟨by rw [List.length_set];exact h.len,fun j hj=>?_⟩
 rw [rd_set (by rw [h.len];exact hn)]
 by_cases e:j=n
 ·subst e;rw [if_pos rfl];exact ⟨h1,h2,h3⟩
 ·rw [if_neg e];exact h.old j (by omega)
theorem rd_rep {α:Type} {z:α} (n:Nat) (i:Int):rd z (List.replicate n z) i=z:=by
 simp only [rd,List.getD_eq_getElem?_getD,List.getElem?_replicate]
 split<;>rfl
structure ClsOk (x:List Int):Prop where
 len:x.length=256
 is:∀ c:Int,0≤c→c<256→(rd 0 x c=3↔isLetter c=true)∧(rd 0 x c=4↔isDigit c=true)∧(rd 0 x c=5↔c=95)
theorem wrap_u8 {x:Int} (h0:0≤x) (h1:x<256):IntKind.wrap .u8 x=x:=by
 simp [IntKind.wrap,IntKind.bits,IntKind.signed]
 omega
theorem letter_not_digit (c:Int) (h:isLetter c=true):isDigit c=false:=by
 simp only [isLetter,isDigit,Bool.or_eq_true,Bool.and_eq_true,decide_eq_true_eq,Bool.and_eq_false_iff,decide_eq_false_iff_not] at h ⊢
 omega
theorem lexer_classes_spec {Q:List Int→Prop} (h:∀ x,ClsOk x→Q x):Vp.F Q:=by
 refine W.up2 256 (fun n x=>Cls x n∧∀ j:Nat,n≤j→j<256→rd 0 x (j:Int)=0) ⟨⟨by simp,fun j h=>by omega⟩,fun j _ hj=>rd_rep _ _⟩ (fun K n x hn hI hk=>?_)
 obtain ⟨hI,hz⟩:=hI
 refine W.dec_i (fun hlt=>?_) (fun hge=>?_)
 ·have hn2:n<256:=by omega
  have hw:IntKind.wrap .u8 (n:Int)=(n:Int):=wrap_u8 (by omega) (by omega)
  have hrest:∀ (v:Int) ,∀ j:Nat,n+1≤j→j<256→rd 0 (x.set n v) (j:Int)=0:=fun v j h1 h2=>by
   rw [rd_set (by rw [hI.len];exact hn2),if_neg (by omega)];exact hz j (by omega) h2
  have key:∀ b:Bool,(b=true→isLetter n=true)→(b=false→isLetter n=false)→Vp.c2 x (n:Int) K b Q:=by
   intro b hb1 hb2
   refine W.ite_i (fun hb=>?_) (fun hb=>?_)
   ·refine W.req_i ⟨by omega,hlt⟩ ?_
    rw [w64_succ (by omega)]
    refine hk hn2 _ ⟨hI.set hn2 (by simp [hb1 hb]) (by simp [letter_not_digit _ (hb1 hb)]) (by decide),hrest 3⟩
   ·have hl:=hb2 hb
    rw [hw]
    refine W.ite_i (fun hd=>?_) (fun hd=>?_)
    ·refine W.req_i ⟨by omega,hlt⟩ ?_
     rw [w64_succ (by omega)]
     exact hk hn2 _ ⟨hI.set hn2 (by simp [hl]) (by simp [isDigit];simpa using hd) (by decide),hrest 4⟩
    ·have hdd:isDigit n=false:=hd
     refine W.ite_i (fun _=>?_) (fun _=>?_)
     ·refine W.req_i ⟨by omega,hlt⟩ ?_
      rw [w64_succ (by omega)]
      exact hk hn2 _ ⟨hI.set hn2 (by simp [hl]) (by simp [hdd]) (by decide),hrest 1⟩
     ·refine W.ite_i (fun _=>?_) (fun _=>?_)
      ·refine W.req_i ⟨by omega,hlt⟩ ?_
       rw [w64_succ (by omega)]
       exact hk hn2 _ ⟨hI.set hn2 (by simp [hl]) (by simp [hdd]) (by decide),hrest 6⟩
      ·rw [w64_succ (by omega)]
       refine hk hn2 _ ⟨⟨hI.len,fun j hj=>?_⟩,fun j h1 h2=>hz j (by omega) h2⟩
       by_cases e:j=n
       ·subst e;rw [hz j (Nat.le_refl _) hn2];simp [hl,hdd]
       ·exact hI.old j (by omega)
  rw [hw]
  refine W.ite_i (fun h1=>key _ (fun _=>by simp only [isLetter,h1,Bool.true_or]) (fun h2=>by rw [h1] at h2;cases h2)) (fun h1=>key _ (fun h2=>by simp only [isLetter,h2,Bool.or_true]) (fun h2=>by simp only [isLetter,h1,h2,Bool.or_false]))
 ·have hne:n=256:=by omega
  subst hne
  refine W.req_i (by omega) (W.req_i (by omega) (W.req_i (by omega) (h _ ⟨?_,fun c h0 h1=>?_⟩)))
  ·simp [wu,hI.len]
  ·obtain ⟨k,rfl⟩:=Int.eq_ofNat_of_zero_le h0
   have hk2:k<256:=by omega
   simp only [wu]
   rw [show (34:Int).toNat=34 from rfl,show (95:Int).toNat=95 from rfl,show (35:Int).toNat=35 from rfl,rd_set (by simp [hI.len]),rd_set (by simp [hI.len]),rd_set (by simp [hI.len])]
   have ho:=hI.old k hk2
   by_cases e1:k=34
   ·subst e1;simp [isLetter,isDigit]
   ·rw [if_neg e1]
    by_cases e2:k=95
    ·subst e2;simp [isLetter,isDigit]
    ·rw [if_neg e2]
     by_cases e3:k=35
     ·subst e3;simp [isLetter,isDigit]
     ·rw [if_neg e3]
      exact ⟨ho.1,ho.2.1,⟨fun hh=>absurd hh ho.2.2,fun hh=>absurd hh (by omega)⟩⟩
theorem size_zero {s:ByteArray} (h:s.size=0):s=⟨#[]⟩:=by
 apply toList_inj
 rw [size_toList,size_toList]
 exact List.eq_nil_of_length_eq_zero (by rw [Array.length_toList];exact h)
theorem lexer_Name_spec {s:ByteArray} (hs:s.size≤maxLen) {Q:Bool→Prop} (h1:NameOk s→Q true) (h2:¬ NameOk s→Q false):ql.F s Q:=by
 rw [maxLen_val] at hs
 refine lexer_classes_spec fun x hx=>?_
 refine W.up1 s.size (fun i=>(∀ j,j<i→isWord (byteAt s (j:Int))=true)∧(0<i→isLetter (byteAt s 0)=true)) ⟨fun j h=>by omega,fun h=>by omega⟩ (fun K i hi hI hk=>?_)
 refine W.dec_i (fun hlt=>W.req_i ⟨by omega,hlt⟩ (W.req_i (byteAt_range _ _) ?_)) (fun hge=>?_)
 ·have hc:=hx.is (byteAt s (i:Int)) (byteAt_range _ _).1 (byteAt_range _ _).2
  have a1:yz x (byteAt s (i:Int))=rd 0 x (byteAt s (i:Int)):=rfl
  refine W.ite_i (fun hw=>?_) (fun hw=>?_)
  ·refine h2 fun hn=>?_
   simp only [a1,Bool.and_eq_true,Bool.or_eq_true,bne_iff_ne,ne_eq,beq_iff_eq,hc.1,hc.2.1,hc.2.2] at hw
   obtain ⟨g1,g2⟩:=hw
   have hwd:=hn.2.2.2 i (by omega)
   rcases g2 with g2 | ⟨g2,g3⟩
   ·have e:i=0:=by omega
    subst e
    exact g1 hn.2.2.1
   ·simp only [isWord,Bool.or_eq_true,beq_iff_eq] at hwd
    rcases hwd with (hwd | hwd) | hwd
    ·exact g1 hwd
    ·exact g2 hwd
    ·exact g3 hwd
  ·rw [w64_succ (by omega)]
   simp only [a1,Bool.and_eq_false_iff,Bool.or_eq_false_iff,bne_eq_false_iff_eq,beq_eq_false_iff_ne,ne_eq,hc.1,hc.2.1,hc.2.2] at hw
   have hword:isWord (byteAt s (i:Int))=true:=by
    simp only [isWord,Bool.or_eq_true,beq_iff_eq]
    rcases hw with hw | ⟨_,hw | hw⟩
    ·exact .inl (.inl hw)
    ·exact .inl (.inr hw)
    ·exact .inr hw
   refine hk (by omega) ⟨fun j hj=>?_,fun _=>?_⟩
   ·by_cases e:j=i
    ·subst e;exact hword
    ·exact hI.1 j (by omega)
   ·by_cases e:i=0
    ·subst e
     rcases hw with hw | ⟨hw,_⟩
     ·exact hw
     ·exact absurd rfl hw
    ·exact hI.2 (by omega)
 ·have hie:i=s.size:=by omega
  subst hie
  have e0:(!(sEq s (⟨#[]⟩:ByteArray)))=decide (0<s.size):=by
   by_cases e:s=⟨#[]⟩
   ·subst e;rw [sEq_self];rfl
   ·have:sEq s ⟨#[]⟩=false:=by rw [sEq_false];exact e
    rw [this]
    have hp:0<s.size:=Nat.pos_of_ne_zero fun h0=>e (size_zero h0)
    rw [decide_eq_true hp];rfl
  show Q ((!(sEq s (⟨#[]⟩:ByteArray)))&&(decide ((s.size:Int)≤(24:Int))))
  rw [e0]
  by_cases hp:0<s.size
  ·by_cases hq:s.size≤24
   ·have:(decide (0<s.size)&&decide ((s.size:Int)≤(24:Int)))=true:=by simp only [Bool.and_eq_true,decide_eq_true_eq];omega
    rw [this]
    exact h1 ⟨hp,hq,hI.2 hp,hI.1⟩
   ·have:(decide (0<s.size)&&decide ((s.size:Int)≤(24:Int)))=false:=by simp only [Bool.and_eq_false_iff,decide_eq_false_iff_not];omega
    rw [this]
    exact h2 fun hn=>hq hn.2.1
  ·have:(decide (0<s.size)&&decide ((s.size:Int)≤(24:Int)))=false:=by simp only [Bool.and_eq_false_iff,decide_eq_false_iff_not];omega
   rw [this]
   exact h2 fun hn=>hp hn.1
theorem lexer_Name_b {s:ByteArray} (hs:s.size≤maxLen) {Q:Bool→Prop} (h:∀ b,(b=true↔NameOk s)→Q b):ql.F s Q:=lexer_Name_spec hs (fun k=>h true (by simp [k])) (fun k=>h false (by simp [k]))
theorem ref08_Name_b {s:ByteArray} (hs:s.size≤maxLen) {Q:Bool→Prop} (h:∀ b,(b=true↔NameOk s)→Q b):yp.F s Q:=ref08_Name_spec hs (fun k=>h true (by simp [k])) (fun k=>h false (by simp [k]))
structure TagsOk (l:List Tag):Prop where
 few:l.length≤60
 each:∀ i:Nat,i<l.length→NameOk (rd zTag l (i:Int)).Key∧1≤(rd zTag l (i:Int)).Value.size∧(rd zTag l (i:Int)).Value.size≤200
 rise:∀ i:Nat,i+1<l.length→sLt (rd zTag l (i:Int)).Key (rd zTag l ((i+1:Nat):Int)).Key=true
theorem NameOk.ne {s:ByteArray} (h:NameOk s):s≠⟨#[]⟩:=fun e=>by
 have:=h.1
 rw [e] at this
 exact absurd this (by decide)
theorem size_pos {s:ByteArray}:sEq s ⟨#[]⟩=decide (s.size<1):=by
 by_cases e:s=⟨#[]⟩
 ·subst e;rw [sEq_self];rfl
 ·have h1:sEq s ⟨#[]⟩=false:=by rw [sEq_false];exact e
  rw [h1]
  have:¬ s.size<1:=fun h=>e (size_zero (by omega))
  rw [decide_eq_false this]
def keysFit (l:List Tag):Prop:=∀ i:Nat,i<l.length→(rd zTag l (i:Int)).Key.size≤maxLen
theorem tag_Valid_spec {l:List Tag} (hl:l.length≤maxLen) (hk:keysFit l) {Q:Bool→Prop} (h1:TagsOk l→Q true) (h2:¬ TagsOk l→Q false):wm.F l Q:=by
 rw [maxLen_val] at hl
 refine W.up2 l.length (fun i last=>(∀ j:Nat,j<i→NameOk (rd zTag l (j:Int)).Key∧1≤(rd zTag l (j:Int)).Value.size∧(rd zTag l (j:Int)).Value.size≤200)∧(∀ j:Nat,j+1<i→sLt (rd zTag l (j:Int)).Key (rd zTag l ((j+1:Nat):Int)).Key=true)∧(i=0→last=⟨#[]⟩)∧(∀ j,i=j+1→last=(rd zTag l (j:Int)).Key)) ⟨fun j h=>by omega,fun j h=>by omega,fun _=>rfl,fun j h=>by omega⟩ (fun K i last hi hI hK=>?_)
 obtain ⟨g1,g2,g3,g4⟩:=hI
 refine W.dec_i (fun hlt=>W.req_i ⟨by omega,hlt⟩ ?_) (fun hge=>?_)
 ·have hi2:i<l.length:=by omega
  refine lexer_Name_b (hk i hi2) fun b hb=>?_
  refine W.ite_i (fun hw=>?_) (fun hw=>?_)
  ·refine h2 fun hn=>?_
   have he:=hn.each i hi2
   rw [sLe_eq] at hw
   simp only [Bool.or_eq_true,decide_eq_true_eq,size_pos,Bool.not_eq_true'] at hw
   rcases hw with ((hw | hw) | hw) | hw
   ·have:=hb.2 he.1;rw [this] at hw;cases hw
   ·by_cases e:i=0
    ·rw [g3 e,sLt_empty he.1.ne] at hw;cases hw
    ·obtain ⟨j,rfl⟩:∃ j,i=j+1:=⟨i-1,by omega⟩
     rw [g4 j rfl,hn.rise j hi2] at hw;cases hw
   ·omega
   ·omega
  ·rw [w64_succ (by omega)]
   rw [sLe_eq] at hw
   simp only [Bool.or_eq_false_iff,decide_eq_false_iff_not,size_pos,Bool.not_eq_false'] at hw
   obtain ⟨⟨⟨hw1,hw2⟩,hw3⟩,hw4⟩:=hw
   refine hK hi2 _ ⟨fun j hj=>?_,fun j hj=>?_,fun e=>by omega,fun j e=>?_⟩
   ·by_cases e:j=i
    ·subst e;exact ⟨hb.1 hw1,by omega,by omega⟩
    ·exact g1 j (by omega)
   ·by_cases e:j+1=i
    ·subst e;rw [← g4 j rfl];exact hw2
    ·exact g2 j (by omega)
   ·have:j=i:=by omega
    subst this;rfl
 ·have hie:i=l.length:=by omega
  subst hie
  show Q (decide ((l.length:Int)≤(60:Int)))
  by_cases hf:l.length≤60
  ·rw [decide_eq_true (by omega)];exact h1 ⟨hf,g1,g2⟩
  ·rw [decide_eq_false (by omega)];exact h2 fun hn=>hf hn.few
theorem ref11_Tags_spec {l:List Tag} (hl:l.length≤maxLen) (hk:keysFit l) {Q:Bool→Prop} (h1:TagsOk l→Q true) (h2:¬ TagsOk l→Q false):zl.F l Q:=by
 rw [maxLen_val] at hl
 refine W.dec_i (fun hlt=>h2 fun hn=>by have:=hn.few;omega) (fun hge=>?_)
 have hf:l.length≤60:=by omega
 refine W.up1 l.length (fun i=>(∀ j:Nat,j<i→NameOk (rd zTag l (j:Int)).Key∧1≤(rd zTag l (j:Int)).Value.size∧(rd zTag l (j:Int)).Value.size≤200)∧(∀ j:Nat,j+1<i→sLt (rd zTag l (j:Int)).Key (rd zTag l ((j+1:Nat):Int)).Key=true)) ⟨fun j h=>by omega,fun j h=>by omega⟩ (fun K i hi hI hK=>?_)
 obtain ⟨g1,g2⟩:=hI
 refine W.dec_i (fun hlt=>W.req_i ⟨by omega,hlt⟩ ?_) (fun hge=>?_)
 case refine_2=>
  have:i=l.length:=by omega
  subst this
  exact h1 ⟨hf,g1,g2⟩
 have hi2:i<l.length:=by omega
 have hm:∀ (h:0<(i:Int)),w64 ((i:Int)-(1:Int))=((i-1:Nat):Int):=fun h=>by rw [w64_id (by omega) (by omega)];omega
 refine ref08_Name_b (hk i hi2) fun b hb=>W.req_i (fun _=>⟨by omega,by omega⟩) (W.req_i (fun _=>⟨by omega,by omega⟩) (W.req_i (fun h=>by
   simp only [Bool.and_eq_true,decide_eq_true_eq] at h
   rw [hm h.2];omega) (W.req_i (fun _=>⟨by omega,by omega⟩) ?_)))
 refine W.ite_i (fun hw=>?_) (fun hw=>?_)
 ·refine h2 fun hn=>?_
  have he:=hn.each i hi2
  simp only [Bool.or_eq_true,decide_eq_true_eq,Bool.not_eq_true',Bool.and_eq_true] at hw
  rcases hw with ((hw | hw) | hw) | ⟨hw0,hw⟩
  ·have:=hb.2 he.1;rw [this] at hw;cases hw
  ·omega
  ·omega
  ·rw [hm hw0] at hw
   have:=hn.rise (i-1) (by omega)
   rw [show i-1+1=i by omega,hw] at this
   cases this
 ·rw [w64_succ (by omega)]
  simp only [Bool.or_eq_false_iff,decide_eq_false_iff_not,Bool.not_eq_false',Bool.and_eq_false_iff] at hw
  obtain ⟨⟨⟨hw1,hw2⟩,hw3⟩,hw4⟩:=hw
  refine hK hi2 ⟨fun j hj=>?_,fun j hj=>?_⟩
  ·by_cases e:j=i
   ·subst e;exact ⟨hb.1 hw1,by omega,by omega⟩
   ·exact g1 j (by omega)
  ·by_cases e:j+1=i
   ·subst e
    rcases hw4 with hw4 | hw4
    ·omega
    ·rw [hm (by omega)] at hw4;simpa using hw4
   ·exact g2 j (by omega)
theorem tag_Valid_b {l:List Tag} (hl:l.length≤maxLen) (hk:keysFit l) {Q:Bool→Prop} (h:∀ b,(b=true↔TagsOk l)→Q b):wm.F l Q:=tag_Valid_spec hl hk (fun k=>h true (by simp [k])) (fun k=>h false (by simp [k]))
theorem ref11_Tags_b {l:List Tag} (hl:l.length≤maxLen) (hk:keysFit l) {Q:Bool→Prop} (h:∀ b,(b=true↔TagsOk l)→Q b):zl.F l Q:=ref11_Tags_spec hl hk (fun k=>h true (by simp [k])) (fun k=>h false (by simp [k]))
abbrev rs (l:List ByteArray) (i:Nat):ByteArray:=rd (⟨#[]⟩:ByteArray) l (i:Int)
def KindOk (k:Int):Prop:=1≤k∧k≤5
theorem object_word_b {k:Int} {Q:ByteArray→Prop} (h:∀ r,(sEq r ⟨#[]⟩=true↔¬ KindOk k)→Q r):zt.F k Q:=by
 refine W.ite_i (fun hk=>?_) (fun hk=>?_)
 ·simp only [Bool.or_eq_true,decide_eq_true_eq] at hk
  exact h _ (by simp only [sEq_self,true_iff];unfold KindOk;omega)
 ·simp only [Bool.or_eq_false_iff,decide_eq_false_iff_not] at hk
  refine W.req_i (by omega) ?_
  have:k=0∨k=1∨k=2∨k=3∨k=4∨k=5:=by omega
  rcases this with rfl | rfl | rfl | rfl | rfl | rfl
  ·show Q (⟨#[]⟩:ByteArray)
   exact h _ (by rw [sEq_self];exact iff_of_true rfl (fun hh=>absurd hh.1 (by decide)))
  ·show Q (⟨#[110,111,100,101]⟩:ByteArray)
   exact h _ (iff_of_false (by rw [size_pos];decide) (fun hn=>hn ⟨by decide,by decide⟩))
  ·show Q (⟨#[119,97,121]⟩:ByteArray)
   exact h _ (iff_of_false (by rw [size_pos];decide) (fun hn=>hn ⟨by decide,by decide⟩))
  ·show Q (⟨#[97,114,101,97]⟩:ByteArray)
   exact h _ (iff_of_false (by rw [size_pos];decide) (fun hn=>hn ⟨by decide,by decide⟩))
  ·show Q (⟨#[114,111,117,116,101]⟩:ByteArray)
   exact h _ (iff_of_false (by rw [size_pos];decide) (fun hn=>hn ⟨by decide,by decide⟩))
  ·show Q (⟨#[116,117,114,110]⟩:ByteArray)
   exact h _ (iff_of_false (by rw [size_pos];decide) (fun hn=>hn ⟨by decide,by decide⟩))
theorem ref11_Word_b {k:Int} {Q:ByteArray→Prop} (h:∀ r,(sEq r ⟨#[]⟩=true↔¬ KindOk k)→Q r):ref11_Word.F k Q:=by
 refine W.ite_i (fun hk=>?_) (fun hk=>?_)
 ·simp only [Bool.or_eq_true,decide_eq_true_eq] at hk
  exact h _ (by simp only [sEq_self,true_iff];unfold KindOk;omega)
 ·simp only [Bool.or_eq_false_iff,decide_eq_false_iff_not] at hk
  refine W.req_i (by simp only [List.length_cons,List.length_nil];omega) (W.req_i (by simp only [List.length_cons,List.length_nil];omega) ?_)
  have:k=1∨k=2∨k=3∨k=4∨k=5:=by omega
  rcases this with rfl | rfl | rfl | rfl | rfl
  ·show Q (⟨#[110,111,100,101]⟩:ByteArray)
   exact h _ (iff_of_false (by rw [size_pos];decide) (fun hn=>hn ⟨by decide,by decide⟩))
  ·show Q (⟨#[119,97,121]⟩:ByteArray)
   exact h _ (iff_of_false (by rw [size_pos];decide) (fun hn=>hn ⟨by decide,by decide⟩))
  ·show Q (⟨#[97,114,101,97]⟩:ByteArray)
   exact h _ (iff_of_false (by rw [size_pos];decide) (fun hn=>hn ⟨by decide,by decide⟩))
  ·show Q (⟨#[114,111,117,116,101]⟩:ByteArray)
   exact h _ (iff_of_false (by rw [size_pos];decide) (fun hn=>hn ⟨by decide,by decide⟩))
  ·show Q (⟨#[116,117,114,110]⟩:ByteArray)
   exact h _ (iff_of_false (by rw [size_pos];decide) (fun hn=>hn ⟨by decide,by decide⟩))
structure Refs1 (k:Int) (l:List ByteArray) (n:Nat):Prop where
 name:∀ i:Nat,i<n→NameOk (rs l i)
 way:k=2→∀ i:Nat,i+1<n→rs l i≠rs l (i+1)
 area:k=3→∀ i j:Nat,i<j→j<n→rs l i≠rs l j
def CountOk (k:Int) (n:Nat):Prop:=n≤2000∧(k=1→n=0)∧(k=2→2≤n)∧(k=3→3≤n)∧(k=4→1≤n)∧(k=5→n=3)
def refsFit (l:List ByteArray):Prop:=∀ i:Nat,i<l.length→(rs l i).size≤maxLen
def Seen (l:List ByteArray) (i:Nat) (m:List (ByteArray×Bool)):Prop:=∀ s,mget s false m=true↔∃ j:Nat,j<i∧rs l j=s
theorem Seen.next {l:List ByteArray} {i:Nat} {m:List (ByteArray×Bool)} (h:Seen l i m):Seen l (i+1) (mset (rs l i) true m):=fun s=>by
 rw [mget_mset]
 constructor
 ·intro hh
  by_cases e:rs l i=s
  ·exact ⟨i,by omega,e⟩
  ·rw [if_neg e] at hh
   obtain ⟨j,hj,e2⟩:=(h s).1 hh
   exact ⟨j,by omega,e2⟩
 ·rintro ⟨j,hj,e⟩
  by_cases e2:rs l i=s
  ·rw [if_pos e2]
  ·rw [if_neg e2]
   refine (h s).2 ⟨j,?_,e⟩
   by_cases e3:j=i
   ·subst e3;exact absurd e e2
   ·omega
theorem Refs1.next {k:Int} {l:List ByteArray} {i:Nat} (h:Refs1 k l i) (h1:NameOk (rs l i)) (h2:k=2→∀ j,i=j+1→rs l j≠rs l i) (h3:k=3→∀ j,j<i→rs l j≠rs l i):Refs1 k l (i+1):=by
 refine ⟨fun j hj=>?_,fun hk j hj=>?_,fun hk a b hab hb=>?_⟩
 ·by_cases e:j=i
  ·subst e;exact h1
  ·exact h.name j (by omega)
 ·by_cases e:j+1=i
  ·rw [e];exact h2 hk j e.symm
  ·exact h.way hk j (by omega)
 ·by_cases e:b=i
  ·subst e;exact h3 hk a hab
  ·exact h.area hk a b hab (by omega)
theorem ref11_refs_b {o:Object} (hl:o.Refs.length≤maxLen) (hf:refsFit o.Refs) (hk:KindOk o.Kind) {Q:Bool→Prop} (h:∀ b,(b=true↔Refs1 o.Kind o.Refs o.Refs.length∧CountOk o.Kind o.Refs.length)→Q b):ref11_refs.F o Q:=by
 rw [maxLen_val] at hl
 refine W.dec_i (fun hlt=>h false (by simp only [Bool.false_eq_true,false_iff];rintro ⟨_,h2,_⟩;omega)) (fun hge=>?_)
 refine W.up2 o.Refs.length (fun i m=>Refs1 o.Kind o.Refs i∧Seen o.Refs i m) ⟨⟨fun i hi=>by omega,fun _ i hi=>by omega,fun _ i j _ hj=>by omega⟩,fun s=>by simp [mget]⟩ (fun K i m hi hI hK=>?_)
 obtain ⟨g1,g2⟩:=hI
 have hm:∀ (h:0<(i:Int)),w64 ((i:Int)-(1:Int))=((i-1:Nat):Int):=fun h=>by rw [w64_id (by omega) (by omega)];omega
 refine W.dec_i (fun hlt=>W.req_i ⟨by omega,hlt⟩ ?_) (fun hge2=>?_)
 ·have hi2:i<o.Refs.length:=by omega
  refine ref08_Name_b (hf i hi2) fun b hb=>W.req_i (fun hh=>by
   simp only [Bool.and_eq_true,decide_eq_true_eq] at hh
   rw [hm hh.2.2];omega) (W.req_i (fun _=>⟨by omega,by omega⟩) (W.req_i (fun _=>⟨by omega,by omega⟩) ?_))
  refine W.ite_i (fun hw=>?_) (fun hw=>?_)
  ·refine h false ?_
   simp only [Bool.false_eq_true,false_iff]
   rintro ⟨hr,_⟩
   simp only [Bool.or_eq_true,decide_eq_true_eq,Bool.not_eq_true',Bool.and_eq_true,beq_iff_eq,sEq_eq] at hw
   rcases hw with (hw | ⟨⟨hw1,hw2⟩,hw⟩) | ⟨hw1,hw⟩
   ·have:=hb.2 (hr.name i hi2);rw [this] at hw;cases hw
   ·rw [hm hw2] at hw
    have:=hr.way hw1 (i-1) (by omega)
    rw [show i-1+1=i by omega] at this
    exact this hw
   ·obtain ⟨j,hj,e⟩:=(g2 _).1 hw
    exact hr.area hw1 j i hj hi2 e
  ·refine W.req_i ⟨by omega,by omega⟩ ?_
   rw [w64_succ (by omega)]
   simp only [Bool.or_eq_false_iff,decide_eq_false_iff_not,Bool.not_eq_false',Bool.and_eq_false_iff,beq_eq_false_iff_ne,ne_eq,sEq_false] at hw
   obtain ⟨⟨hw1,hw2⟩,hw3⟩:=hw
   refine hK hi2 _ ⟨g1.next (hb.1 hw1) (fun hk2 j e=>?_) (fun hk3 j hj e=>?_),g2.next⟩
   ·rcases hw2 with (hw2 | hw2) | hw2
    ·exact absurd hk2 hw2
    ·omega
    ·rw [hm (by omega),show i-1=j by omega] at hw2;exact hw2
   ·rcases hw3 with hw3 | hw3
    ·exact hw3 hk3
    ·have:=(g2 (rs o.Refs i)).2 ⟨j,hj,e⟩
     rw [this] at hw3;cases hw3
 ·have hie:i=o.Refs.length:=by omega
  subst hie
  have key:∀ b:Bool,(b=true↔CountOk o.Kind o.Refs.length)→Q b:=fun b hb=>h b (by rw [hb];exact ⟨fun x=>⟨g1,x⟩,fun x=>x.2⟩)
  unfold KindOk at hk
  refine W.ite_i (fun e=>key _ ?_) (fun e1=>W.ite_i (fun e=>key _ ?_) (fun e2=>W.ite_i (fun e=>key _ ?_) (fun e3=>W.ite_i (fun e=>key _ ?_) (fun e4=>key _ ?_))))<;>simp only [beq_iff_eq,beq_eq_false_iff_ne,ne_eq,decide_eq_true_eq] at *<;>unfold CountOk<;>omega
theorem object_Valid_1_b {s:ByteArray} {o:Object} {last:ByteArray} {m:List (ByteArray×Bool)} (hs:s.size≤maxLen) {Q:Bool×ByteArray×List (ByteArray×Bool)→Prop} (h:∀ b,(b=true↔(o.Kind=2∧s=last)∨(o.Kind=3∧mget s false m=true)∨¬ NameOk s)→Q (b,s,mset s true m)):wc.F s o last m Q:=by
 refine W.ite_i (fun hw=>lexer_Name_b hs fun b hb=>h _ ?_) (fun hw=>h _ ?_)
 ·simp only [Bool.not_eq_true',Bool.or_eq_false_iff,Bool.and_eq_false_iff,beq_eq_false_iff_ne,ne_eq,sEq_false] at hw
  simp only [Bool.or_eq_true,Bool.and_eq_true,beq_iff_eq,sEq_eq,Bool.not_eq_true',or_assoc,← hb,Bool.not_eq_true]
 ·simp only [Bool.not_eq_false',Bool.or_eq_true,Bool.and_eq_true,beq_iff_eq,sEq_eq] at hw
  simp only [Bool.or_eq_true,Bool.and_eq_true,beq_iff_eq,sEq_eq,Bool.not_eq_true',or_assoc]
  constructor
  ·rintro (h | h | h)
   ·exact .inl h
   ·exact .inr (.inl h)
   ·rcases hw with hw | hw
    ·exact .inl hw
    ·exact .inr (.inl hw)
  ·rintro (h | h | h)
   ·exact .inl h
   ·exact .inr (.inl h)
   ·rcases hw with hw | hw
    ·exact .inl hw
    ·exact .inr (.inl hw)
theorem object_refs_b {o:Object} (hl:o.Refs.length≤maxLen) (hf:refsFit o.Refs) {Q:Bool×ByteArray×List (ByteArray×Bool)→Prop} (h:∀ r,(r.1=true↔¬ Refs1 o.Kind o.Refs o.Refs.length)→Q r):Jl.F o.Refs o (⟨#[]⟩:ByteArray) ([]:(List (ByteArray×Bool))) Q:=by
 rw [maxLen_val] at hl
 show (Jb.F o.Refs o (⟨#[]⟩:ByteArray) ([]:(List (ByteArray×Bool)))) (fun r1=>Q ((decide ((0:Int)≤r1.1)),r1.2.1,r1.2.2))
 refine W.up3 o.Refs.length (fun i last m=>Refs1 o.Kind o.Refs i∧Seen o.Refs i m∧(i=0→last=⟨#[]⟩)∧(∀ j,i=j+1→last=rs o.Refs j)) ⟨⟨fun i hi=>by omega,fun _ i hi=>by omega,fun _ i j _ hj=>by omega⟩,fun s=>by simp [mget],fun _=>rfl,fun j hj=>by omega⟩ (fun K i last m hi hI hK=>?_)
 obtain ⟨g1,g2,g3,g4⟩:=hI
 refine W.dec_i (fun hlt=>W.req_i ⟨by omega,hlt⟩ ?_) (fun hge=>?_)
 ·have hi2:i<o.Refs.length:=by omega
  refine object_Valid_1_b (hf i hi2) fun b hb=>W.ite_i (fun hw=>?_) (fun hw=>?_)
  ·refine h _ (iff_of_true (by simp) fun hr=>?_)
   rcases hb.1 hw with ⟨hk,e⟩ | ⟨hk,e⟩ | e
   ·by_cases e0:i=0
    ·have:=(hr.name i hi2).ne
     exact this (e.trans (g3 e0))
    ·obtain ⟨j,rfl⟩:∃ j,i=j+1:=⟨i-1,by omega⟩
     exact hr.way hk j hi2 ((e.trans (g4 j rfl)).symm)
   ·obtain ⟨j,hj,e2⟩:=(g2 _).1 e
    exact hr.area hk j i hj hi2 e2
   ·exact e (hr.name i hi2)
  ·have hw':¬ (o.Kind=2∧rs o.Refs i=last∨o.Kind=3∧mget (rs o.Refs i) false m=true∨¬ NameOk (rs o.Refs i)):=fun hh=>by have:=hb.2 hh;rw [this] at hw;cases hw
   rw [w64_succ (by omega)]
   refine hK hi2 _ _ ⟨g1.next (Classical.byContradiction fun hh=>hw' (.inr (.inr hh))) (fun hk j e e2=>hw' (.inl ⟨hk,?_⟩)) (fun hk j hj e=>hw' (.inr (.inl ⟨hk,(g2 _).2 ⟨j,hj,e⟩⟩))),g2.next,fun e=>by omega,fun j e=>?_⟩
   ·rw [g4 j e];exact e2.symm
   ·have:j=i:=by omega
    subst this;rfl
 ·have hie:i=o.Refs.length:=by omega
  subst hie
  exact h _ (iff_of_false (by simp) (fun hh=>hh g1))
def AtOk (k:Int) (p:Point):Prop:=(k=1→0≤p.X∧p.X<1048576∧0≤p.Y∧p.Y<1048576)∧(k≠1→p.X=0∧p.Y=0)
structure ObjOk (o:Object):Prop where
 kind:KindOk o.Kind
 name:NameOk o.Id
 tags:TagsOk o.Tags
 refs:Refs1 o.Kind o.Refs o.Refs.length
 count:CountOk o.Kind o.Refs.length
 at_:AtOk o.Kind o.At
structure ObjFit (o:Object):Prop where
 id:o.Id.size≤maxLen
 refs:o.Refs.length≤maxLen
 each:refsFit o.Refs
 tags:o.Tags.length≤maxLen
 keys:keysFit o.Tags
theorem eq_zero_iff {p:Point}:Vf p (⟨(0:Int),(0:Int)⟩:Point)=true↔p.X=0∧p.Y=0:=by
 simp [Vf]
theorem object_Valid_b {o:Object} (hf:ObjFit o) {Q:Bool→Prop} (h:∀ b,(b=true↔ObjOk o)→Q b):yf.F o Q:=by
 refine object_word_b fun r hr=>?_
 cases e1:sEq r ⟨#[]⟩ with
 | true=>
  have hk:¬ ObjOk o:=fun ho=>hr.1 e1 ho.kind
  refine W.ite_i (fun hh=>by rw [e1] at hh;cases hh) (fun _=>W.ite_i (fun hh=>by rw [e1] at hh;cases hh) (fun _=>W.ite_i (fun hh=>by rw [e1] at hh;cases hh) (fun _=>W.ite_i (fun _=>h _ (iff_of_false (by simp) hk)) (fun hh=>by rw [e1] at hh;cases hh))))
 | false=>
  have hk:KindOk o.Kind:=Classical.byContradiction fun hn=>by rw [hr.2 hn] at e1;cases e1
  refine W.ite_i (fun _=>?_) (fun hh=>by rw [e1] at hh;cases hh)
  refine lexer_Name_b hf.id fun b2 h2=>?_
  cases b2 with
  | false=>
   have hn:¬ ObjOk o:=fun ho=>by have:=h2.2 ho.name;cases this
   refine W.ite_i (fun hh=>by rw [e1] at hh;cases hh) (fun _=>W.ite_i (fun hh=>by rw [e1] at hh;cases hh) (fun _=>W.ite_i (fun _=>h _ (iff_of_false (by simp) hn)) (fun hh=>by rw [e1] at hh;cases hh)))
  | true=>
   refine W.ite_i (fun _=>?_) (fun hh=>by rw [e1] at hh;cases hh)
   refine tag_Valid_b hf.tags hf.keys fun b3 h3=>?_
   cases b3 with
   | false=>
    have hn:¬ ObjOk o:=fun ho=>by have:=h3.2 ho.tags;cases this
    refine W.ite_i (fun hh=>by rw [e1] at hh;cases hh) (fun _=>W.ite_i (fun _=>h _ (iff_of_false (by simp) hn)) (fun hh=>by rw [e1] at hh;cases hh))
   | true=>
    refine W.ite_i (fun _=>?_) (fun hh=>by rw [e1] at hh;cases hh)
    unfold KindOk at hk
    refine W.req_i (by omega) ?_
    have hleast:∃ n:Int,aget_178 ((0:Int),(0:Int),(2:Int),(3:Int),(1:Int),(3:Int)) o.Kind=n∧(o.Kind=1∧n=0∨o.Kind=2∧n=2∨o.Kind=3∧n=3∨o.Kind=4∧n=1∨o.Kind=5∧n=3):=by
     have:o.Kind=1∨o.Kind=2∨o.Kind=3∨o.Kind=4∨o.Kind=5:=by omega
     rcases this with e | e | e | e | e<;>rw [e]<;>exact ⟨_,rfl,by simp [aget_178]⟩
    obtain ⟨n,hn,hnk⟩:=hleast
    show W.ite _ _ _ Q
    rw [show aget_178 ((0:Int),(0:Int),(2:Int),(3:Int),(1:Int),(3:Int)) o.Kind=n from hn]
    refine W.ite_i (fun hh=>h _ (iff_of_false (by simp) fun ho=>?_)) (fun hh=>?_)
    ·have hc:=ho.count
     unfold CountOk at hc
     simp only [e1,Bool.not_true,Bool.false_or,Bool.or_eq_true,decide_eq_true_eq] at hh
     omega
    ·simp only [e1,Bool.not_true,Bool.false_or,Bool.or_eq_false_iff,decide_eq_false_iff_not] at hh
     refine object_refs_b hf.refs hf.each fun q hq=>W.ite_i (fun hw=>h _ (iff_of_false (by simp) fun ho=>hq.1 hw ho.refs)) (fun hw=>?_)
     have hrefs:Refs1 o.Kind o.Refs o.Refs.length:=Classical.byContradiction fun hn=>by rw [hq.2 hn] at hw;cases hw
     have fin:∀ b:Bool,(b=true↔CountOk o.Kind o.Refs.length∧AtOk o.Kind o.At)→Q b:=fun b hb=>h b (by
      rw [hb]
      exact ⟨fun ⟨x,y⟩=>⟨hk,h2.1 rfl,h3.1 rfl,hrefs,x,y⟩,fun ho=>⟨ho.count,ho.at_⟩⟩)
     refine W.ite_i (fun hk1=>?_) (fun hk1=>?_)
     ·have hk1':o.Kind=1:=by simpa using hk1
      refine W.ite_i (fun hz=>fin _ ?_) (fun hz=>fin _ ?_)
      ·simp only [beq_iff_eq] at hz
       simp only [Bool.and_eq_true,decide_eq_true_eq,beq_iff_eq]
       unfold CountOk AtOk
       omega
      ·simp only [beq_eq_false_iff_ne,ne_eq] at hz
       simp only [Bool.and_false,Bool.false_eq_true,false_iff]
       unfold CountOk
       omega
     ·have hk1':o.Kind≠1:=by simpa using hk1
      refine W.ite_i (fun hk5=>fin _ ?_) (fun hk5=>fin _ ?_)
      ·have hk5':o.Kind=5:=by simpa using hk5
       simp only [Bool.and_eq_true,beq_iff_eq,eq_zero_iff]
       unfold CountOk AtOk
       omega
      ·have hk5':o.Kind≠5:=by simpa using hk5
       rw [eq_zero_iff]
       unfold CountOk AtOk
       omega
theorem ref11_Valid_b {o:Object} (hf:ObjFit o) {Q:Bool→Prop} (h:∀ b,(b=true↔ObjOk o)→Q b):zr.F o Q:=by
 have key:∀ at1:Bool,(at1=true↔AtOk o.Kind o.At)→zr.c1 o at1 Q:=by
  intro at1 hat
  refine ref08_Name_b hf.id fun b2 h2=>?_
  cases b2 with
  | false=>
   have hn:¬ ObjOk o:=fun ho=>by have:=h2.2 ho.name;cases this
   exact h _ (iff_of_false (by simp) hn)
  | true=>
   refine W.ite_i (fun _=>?_) (fun hh=>by cases hh)
   refine ref11_Word_b fun r hr=>?_
   cases e1:sEq r ⟨#[]⟩ with
   | true=>
    have hk:¬ ObjOk o:=fun ho=>hr.1 e1 ho.kind
    refine W.ite_i (fun hh=>by rw [e1] at hh;cases hh) (fun _=>W.ite_i (fun hh=>by rw [e1] at hh;cases hh) (fun _=>?_))
    show Q ((((true&&(!(sEq r (⟨#[]⟩:ByteArray))))&&at1)&&false)&&false)
    exact h _ (iff_of_false (by simp) hk)
   | false=>
    have hk:KindOk o.Kind:=Classical.byContradiction fun hn=>by rw [hr.2 hn] at e1;cases e1
    cases at1 with
    | false=>
     have hn:¬ ObjOk o:=fun ho=>by have:=hat.2 ho.at_;cases this
     refine W.ite_i (fun hh=>by rw [e1] at hh;cases hh) (fun _=>W.ite_i (fun hh=>by rw [e1] at hh;cases hh) (fun _=>?_))
     exact h _ (iff_of_false (by simp) hn)
    | true=>
     refine W.ite_i (fun _=>?_) (fun hh=>by rw [e1] at hh;cases hh)
     refine ref11_Tags_b hf.tags hf.keys fun b3 h3=>?_
     cases b3 with
     | false=>
      have hn:¬ ObjOk o:=fun ho=>by have:=h3.2 ho.tags;cases this
      refine W.ite_i (fun hh=>by rw [e1] at hh;cases hh) (fun _=>?_)
      exact h _ (iff_of_false (by simp) hn)
     | true=>
      refine W.ite_i (fun _=>?_) (fun hh=>by rw [e1] at hh;cases hh)
      refine ref11_refs_b hf.refs hf.each hk fun b4 h4=>?_
      show Q ((((true&&(!(sEq r (⟨#[]⟩:ByteArray))))&&true)&&true)&&b4)
      rw [e1]
      refine h _ ?_
      simp only [Bool.not_false,Bool.and_self,Bool.true_and,h4]
      exact ⟨fun ⟨x,y⟩=>⟨hk,h2.1 rfl,h3.1 rfl,x,y,hat.1 rfl⟩,fun ho=>⟨ho.refs,ho.count⟩⟩
 refine W.ite_i (fun hk=>key _ ?_) (fun hk=>key _ ?_)
 ·simp only [bne_iff_ne,ne_eq] at hk
  rw [eq_zero_iff];unfold AtOk;omega
 ·simp only [bne_eq_false_iff_eq] at hk
  simp only [Bool.and_eq_true,decide_eq_true_eq]
  unfold AtOk;omega
abbrev ob (m:Map) (i:Nat):Object:=rd zObject m.Objects (i:Int)
structure MapOk (m:Map):Prop where
 few:m.Objects.length≤1000000
 each:∀ i:Nat,i<m.Objects.length→ObjOk (ob m i)
 rise:∀ i:Nat,i+1<m.Objects.length→sLt (ob m i).Id (ob m (i+1)).Id=true
structure MapFit (m:Map):Prop where
 len:m.Objects.length≤maxLen
 each:∀ i:Nat,i<m.Objects.length→ObjFit (ob m i)
theorem atlas_Valid_b {m:Map} (hf:MapFit m) {Q:Bool→Prop} (h:∀ b,(b=true↔MapOk m)→Q b):qa.F m Q:=by
 have hl:=hf.len
 rw [maxLen_val] at hl
 refine W.up2 m.Objects.length (fun i last=>(∀ j:Nat,j<i→ObjOk (ob m j))∧(∀ j:Nat,j+1<i→sLt (ob m j).Id (ob m (j+1)).Id=true)∧(i=0→last=⟨#[]⟩)∧(∀ j,i=j+1→last=(ob m j).Id)) ⟨fun j h=>by omega,fun j h=>by omega,fun _=>rfl,fun j h=>by omega⟩ (fun K i last hi hI hK=>?_)
 obtain ⟨g1,g2,g3,g4⟩:=hI
 refine W.dec_i (fun hlt=>W.req_i ⟨by omega,hlt⟩ ?_) (fun hge=>?_)
 ·have hi2:i<m.Objects.length:=by omega
  refine object_Valid_b (hf.each i hi2) fun b hb=>?_
  refine W.ite_i (fun hw=>h _ (iff_of_false (by simp) fun hn=>?_)) (fun hw=>?_)
  ·have he:=hn.each i hi2
   rw [sLe_eq] at hw
   simp only [Bool.or_eq_true,Bool.not_eq_true'] at hw
   rcases hw with hw | hw
   ·have:=hb.2 he;rw [this] at hw;cases hw
   ·by_cases e:i=0
    ·rw [g3 e,sLt_empty he.name.ne] at hw;cases hw
    ·obtain ⟨j,rfl⟩:∃ j,i=j+1:=⟨i-1,by omega⟩
     rw [g4 j rfl] at hw
     have:=hn.rise j hi2
     rw [this] at hw;cases hw
  ·rw [w64_succ (by omega)]
   rw [sLe_eq] at hw
   simp only [Bool.or_eq_false_iff,Bool.not_eq_false'] at hw
   obtain ⟨hw1,hw2⟩:=hw
   refine hK hi2 _ ⟨fun j hj=>?_,fun j hj=>?_,fun e=>by omega,fun j e=>?_⟩
   ·by_cases e:j=i
    ·subst e;exact hb.1 hw1
    ·exact g1 j (by omega)
   ·by_cases e:j+1=i
    ·subst e;rw [← g4 j rfl];exact hw2
    ·exact g2 j (by omega)
   ·have:j=i:=by omega
    subst this;rfl
 ·have hie:i=m.Objects.length:=by omega
  subst hie
  show Q (decide ((m.Objects.length:Int)≤(1000000:Int)))
  refine h _ ?_
  simp only [decide_eq_true_eq]
  exact ⟨fun x=>⟨by omega,g1,g2⟩,fun x=>by have:=x.few;omega⟩
theorem ref13_Valid_b {m:Map} (hf:MapFit m) {Q:Bool→Prop} (h:∀ b,(b=true↔MapOk m)→Q b):yw.F m Q:=by
 have hl:=hf.len
 rw [maxLen_val] at hl
 refine W.dec_i (fun hlt=>h _ (iff_of_false (by simp) fun hn=>by have:=hn.few;omega)) (fun hge=>?_)
 refine W.up1 m.Objects.length (fun i=>(∀ j:Nat,j<i→ObjOk (ob m j))∧(∀ j:Nat,j+1<i→sLt (ob m j).Id (ob m (j+1)).Id=true)) ⟨fun j h=>by omega,fun j h=>by omega⟩ (fun K i hi hI hK=>?_)
 obtain ⟨g1,g2⟩:=hI
 have hm:∀ (h:0<(i:Int)),w64 ((i:Int)-(1:Int))=((i-1:Nat):Int):=fun h=>by rw [w64_id (by omega) (by omega)];omega
 refine W.dec_i (fun hlt=>W.req_i ⟨by omega,hlt⟩ ?_) (fun hge2=>?_)
 ·have hi2:i<m.Objects.length:=by omega
  refine ref11_Valid_b (hf.each i hi2) fun b hb=>W.req_i (fun hh=>by
   simp only [Bool.and_eq_true,decide_eq_true_eq] at hh
   rw [hm hh.2];omega) (W.req_i (fun _=>⟨by omega,by omega⟩) ?_)
  refine W.ite_i (fun hw=>h _ (iff_of_false (by simp) fun hn=>?_)) (fun hw=>?_)
  ·simp only [Bool.or_eq_true,decide_eq_true_eq,Bool.not_eq_true',Bool.and_eq_true] at hw
   rcases hw with hw | ⟨hw1,hw⟩
   ·have:=hb.2 (hn.each i hi2);rw [this] at hw;cases hw
   ·rw [hm hw1] at hw
    have:=hn.rise (i-1) (by omega)
    rw [show i-1+1=i by omega] at this
    rw [this] at hw;cases hw
  ·rw [w64_succ (by omega)]
   simp only [Bool.or_eq_false_iff,decide_eq_false_iff_not,Bool.not_eq_false',Bool.and_eq_false_iff] at hw
   obtain ⟨hw1,hw2⟩:=hw
   refine hK hi2 ⟨fun j hj=>?_,fun j hj=>?_⟩
   ·by_cases e:j=i
    ·subst e;exact hb.1 hw1
    ·exact g1 j (by omega)
   ·by_cases e:j+1=i
    ·subst e
     rcases hw2 with hw2 | hw2
     ·omega
     ·rw [hm (by omega),show j+1-1=j by omega] at hw2;exact hw2
    ·exact g2 j (by omega)
 ·have hie:i=m.Objects.length:=by omega
  subst hie
  exact h _ (iff_of_true rfl ⟨by omega,g1,g2⟩)
end Go.Gp.Gb
end
section
set_option linter.unusedVariables false
set_option linter.unusedSimpArgs false
set_option maxRecDepth 100000
namespace Go.Gp.Gb
open Go.Proofs
def qr.c3 (x9:(List (BA×BA))):W (List (BA×BA)):=W.ret x9
def qr.l1 (K3:(List (BA×BA))→W (List (BA×BA))) (A1:(List (BA×BA))→Int→W (List (BA×BA))) (x12:(List (BA×BA))) (i9:Int):W (List (BA×BA)):=W.ite (decide (i9<(x12.length:Int))) (W.req (0≤i9∧i9<(x12.length:Int)) (A1 (x12.set i9.toNat ((sMin ((rd ((⟨#[]⟩:BA),(⟨#[]⟩:BA)) x12 i9).1) ((rd ((⟨#[]⟩:BA),(⟨#[]⟩:BA)) x12 i9).2)),(sMax ((rd ((⟨#[]⟩:BA),(⟨#[]⟩:BA)) x12 i9).1) ((rd ((⟨#[]⟩:BA),(⟨#[]⟩:BA)) x12 i9).2)))) (w64 (i9+(1:Int))))) (K3 x12)
def qr.c2 (x5:(List (BA×BA))):W (List (BA×BA)):=W.ex fun n=>W.iter2 (qr.l1 (qr.c3)) n x5 (0:Int)
def qr.c1 (o1:Object) (x4:(List (BA×BA))):W (List (BA×BA)):=W.ite (o1.Kind==(3:Int)) (W.req (0≤(w64 ((o1.Refs.length:Int)-(1:Int)))∧(w64 ((o1.Refs.length:Int)-(1:Int)))<(o1.Refs.length:Int)) (W.req (0≤(0:Int)∧(0:Int)<(o1.Refs.length:Int)) (W.req ((x4.length+([((rd (⟨#[]⟩:BA) o1.Refs (w64 ((o1.Refs.length:Int)-(1:Int)))),(rd (⟨#[]⟩:BA) o1.Refs (0:Int)))]:List (BA×BA)).length)*32≤140737488355328∧x4.length+([((rd (⟨#[]⟩:BA) o1.Refs (w64 ((o1.Refs.length:Int)-(1:Int)))),(rd (⟨#[]⟩:BA) o1.Refs (0:Int)))]:List (BA×BA)).length≤140737488355328) ((qr.c2) (x4++([((rd (⟨#[]⟩:BA) o1.Refs (w64 ((o1.Refs.length:Int)-(1:Int)))),(rd (⟨#[]⟩:BA) o1.Refs (0:Int)))]:List (BA×BA))))))) ((qr.c2) x4)
def qr.l2 (o1:Object) (K1:(List (BA×BA))→W (List (BA×BA))) (A2:(List (BA×BA))→Int→W (List (BA×BA))) (x15:(List (BA×BA))) (i12:Int):W (List (BA×BA)):=W.ite (decide ((w64 (i12+(1:Int)))<(o1.Refs.length:Int))) (W.req (0≤i12∧i12<(o1.Refs.length:Int)) (W.req (0≤(w64 (i12+(1:Int)))∧(w64 (i12+(1:Int)))<(o1.Refs.length:Int)) (W.req ((x15.length+([((rd (⟨#[]⟩:BA) o1.Refs i12),(rd (⟨#[]⟩:BA) o1.Refs (w64 (i12+(1:Int)))))]:List (BA×BA)).length)*32≤140737488355328∧x15.length+([((rd (⟨#[]⟩:BA) o1.Refs i12),(rd (⟨#[]⟩:BA) o1.Refs (w64 (i12+(1:Int)))))]:List (BA×BA)).length≤140737488355328) (A2 (x15++([((rd (⟨#[]⟩:BA) o1.Refs i12),(rd (⟨#[]⟩:BA) o1.Refs (w64 (i12+(1:Int)))))]:List (BA×BA))) (w64 (i12+(1:Int))))))) (K1 x15)
def qr.F (o1:Object):W (List (BA×BA)):=W.ite ((o1.Kind != (2:Int))&&(o1.Kind != (3:Int))) (W.ret ([]:List (BA×BA))) (W.ex fun n=>W.iter2 (qr.l2 o1 (qr.c1 o1)) n ([]:List (BA×BA)) (0:Int))
def yx.c1 (m1:Map) (id1:BA) (from4:Int):W Int:=W.req ((decide (from4<(m1.Objects.length:Int)))=true→0≤from4∧from4<(m1.Objects.length:Int)) (W.ite ((decide (from4<(m1.Objects.length:Int)))&&(sEq ((rd zObject m1.Objects from4).Id) id1)) (W.ret from4) (W.ret (-1:Int)))
def yx.l1 (m1:Map) (id1:BA) (K1:Int→W Int) (A1:Int→Int→W Int) (from7:Int) (to6:Int):W Int:=W.ite (decide (from7<to6)) (W.req (0≤(w64 (Int.tdiv (w64 (from7+to6)) (2:Int)))∧(w64 (Int.tdiv (w64 (from7+to6)) (2:Int)))<(m1.Objects.length:Int)) (W.ite (sLt ((rd zObject m1.Objects (w64 (Int.tdiv (w64 (from7+to6)) (2:Int)))).Id) id1) (A1 (w64 ((w64 (Int.tdiv (w64 (from7+to6)) (2:Int)))+(1:Int))) to6) (A1 from7 (w64 (Int.tdiv (w64 (from7+to6)) (2:Int)))))) (K1 from7)
def yx.F (m1:Map) (id1:BA):W Int:=W.ex fun n=>W.iter2 (yx.l1 m1 id1 (yx.c1 m1 id1)) n (0:Int) (m1.Objects.length:Int)
def ref13_kind.F (o1:Object) (i1:Int):W Int:=W.ite ((o1.Kind==(4:Int))||((o1.Kind==(5:Int))&&(i1 != (1:Int)))) (W.ret (2:Int)) (W.ret (1:Int))
def qz.c1:W Bool:=W.ret true
def qz.l1 (self:Map→Object→W Bool) (m1:Map) (o1:Object) (K1:W Bool) (A1:Int→W Bool) (i6:Int):W Bool:=W.ite (decide (i6<(o1.Refs.length:Int))) (W.req (0≤i6∧i6<(o1.Refs.length:Int)) (W.bind (yx.F m1 (rd (⟨#[]⟩:BA) o1.Refs i6)) (fun r13=>W.req ((!(decide (r13<(0:Int))))=true→0≤r13∧r13<(m1.Objects.length:Int)) (W.bind (W.ite (!(decide (r13<(0:Int)))) (ref13_kind.F o1 i6) (W.ret (0:Int))) (fun r14=>W.req ((!((decide (r13<(0:Int)))||(((rd zObject m1.Objects r13).Kind) != r14)))=true→0≤r13∧r13<(m1.Objects.length:Int)) (W.bind (W.ite (!((decide (r13<(0:Int)))||(((rd zObject m1.Objects r13).Kind) != r14))) (self m1 (rd zObject m1.Objects r13)) (W.ret false)) (fun r15=>W.ite (((decide (r13<(0:Int)))||(((rd zObject m1.Objects r13).Kind) != r14))||(!r15)) (W.ret false) (A1 (w64 (i6+(1:Int))))))))))) (K1)
def qz.G (self:Map→Object→W Bool) (m1:Map) (o1:Object):W Bool:=W.ex fun n=>W.iter1 (qz.l1 self m1 o1 (qz.c1)) n (0:Int)
def qz.Fn:Nat→Map→Object→W Bool
 | 0=>fun _ _=>W.fail
 | n+1=>qz.G (qz.Fn n)
def qz.F (m1:Map) (o1:Object):W Bool:=W.ex fun n=>qz.Fn n m1 o1
def qc.c2 (id1:BA) (at4:Int) (x2:(List Vb)):W (List Vb):=W.req (0≤at4∧at4<(x2.length:Int)) (W.req (0≤at4∧at4<(x2.length:Int)) (W.req ((!((((rd Je x2 at4).Owners).length:Int)==(0:Int)))=true→0≤at4∧at4<(x2.length:Int)) (W.req ((!((((rd Je x2 at4).Owners).length:Int)==(0:Int)))=true→0≤at4∧at4<(x2.length:Int)) (W.req ((!((((rd Je x2 at4).Owners).length:Int)==(0:Int)))=true→0≤(w64 ((((rd Je x2 at4).Owners).length:Int)-(1:Int)))∧(w64 ((((rd Je x2 at4).Owners).length:Int)-(1:Int)))<(((rd Je x2 at4).Owners).length:Int)) (W.ite (((((rd Je x2 at4).Owners).length:Int)==(0:Int))||(!(sEq (rd (⟨#[]⟩:BA) ((rd Je x2 at4).Owners) (w64 ((((rd Je x2 at4).Owners).length:Int)-(1:Int)))) id1))) (W.req (0≤at4∧at4<(x2.length:Int)) (W.req (0≤at4∧at4<(x2.length:Int)) (W.req ((([]:List BA).length+((rd Je x2 at4).Owners).length)*16≤140737488355328∧([]:List BA).length+((rd Je x2 at4).Owners).length≤140737488355328) (W.req (((([]:List BA)++((rd Je x2 at4).Owners)).length+([id1]:List BA).length)*16≤140737488355328∧(([]:List BA)++((rd Je x2 at4).Owners)).length+([id1]:List BA).length≤140737488355328) (W.req (0≤at4∧at4<(x2.length:Int)) (W.req (0≤at4∧at4<(x2.length:Int)) (W.ret (x2.set at4.toNat ({ (rd Je x2 at4) with Owners:=((([]:List BA)++((rd Je x2 at4).Owners))++([id1]:List BA)) }:Vb))))))))) (W.ret x2))))))
def qc.c3 (l1:(List Vb)) (at4:Int) (K2:(List Vb)→W (List Vb)) (x3:Vb):W (List Vb):=W.req (0≤at4∧at4≤(l1.length:Int)) (W.req (at4.toNat≤l1.length) (W.req ((([]:List Vb).length+((l1.take at4.toNat).drop 0).length)*88≤140737488355328∧([]:List Vb).length+((l1.take at4.toNat).drop 0).length≤140737488355328) (W.req (((([]:List Vb)++((l1.take at4.toNat).drop 0)).length+([x3]:List Vb).length)*88≤140737488355328∧(([]:List Vb)++((l1.take at4.toNat).drop 0)).length+([x3]:List Vb).length≤140737488355328) (W.req (l1.length≤l1.length) (W.req ((((([]:List Vb)++((l1.take at4.toNat).drop 0))++([x3]:List Vb)).length+((l1.take l1.length).drop at4.toNat).length)*88≤140737488355328∧((([]:List Vb)++((l1.take at4.toNat).drop 0))++([x3]:List Vb)).length+((l1.take l1.length).drop at4.toNat).length≤140737488355328) (K2 (((([]:List Vb)++((l1.take at4.toNat).drop 0))++([x3]:List Vb))++((l1.take l1.length).drop at4.toNat))))))))
def qc.c1 (l1:(List Vb)) (m1:Map) (s1:(BA×BA)) (id1:BA) (at4:Int):W (List Vb):=W.req ((!(at4==(l1.length:Int)))=true→0≤at4∧at4<(l1.length:Int)) (W.req ((!((at4==(l1.length:Int))||(!(sEq ((rd Je l1 at4).A) s1.1))))=true→0≤at4∧at4<(l1.length:Int)) (W.ite (((at4==(l1.length:Int))||(!(sEq ((rd Je l1 at4).A) s1.1)))||(!(sEq ((rd Je l1 at4).B) s1.2))) (W.bind (yx.F m1 s1.1) (fun r5=>W.req (0≤r5∧r5<(m1.Objects.length:Int)) (W.bind (yx.F m1 s1.2) (fun r6=>W.req (0≤r6∧r6<(m1.Objects.length:Int)) ((qc.c3 l1 at4 (qc.c2 id1 at4)) (⟨s1.1,s1.2,(rd zObject m1.Objects r5).At,(rd zObject m1.Objects r6).At,([]:List BA)⟩:Vb)))))) ((qc.c2 id1 at4) l1)))
def qc.l1 (l1:(List Vb)) (s1:(BA×BA)) (K1:Int→W (List Vb)) (A1:Int→W (List Vb)) (at7:Int):W (List Vb):=W.req ((decide (at7<(l1.length:Int)))=true→0≤at7∧at7<(l1.length:Int)) (W.req (((decide (at7<(l1.length:Int)))&&!(sLt ((rd Je l1 at7).A) s1.1))=true→0≤at7∧at7<(l1.length:Int)) (W.req ((((decide (at7<(l1.length:Int)))&&!(sLt ((rd Je l1 at7).A) s1.1))&&(sEq ((rd Je l1 at7).A) s1.1))=true→0≤at7∧at7<(l1.length:Int)) (W.ite ((decide (at7<(l1.length:Int)))&&((sLt ((rd Je l1 at7).A) s1.1)||((sEq ((rd Je l1 at7).A) s1.1)&&(sLt ((rd Je l1 at7).B) s1.2)))) (A1 (w64 (at7+(1:Int)))) (K1 at7))))
def qc.F (l1:(List Vb)) (m1:Map) (s1:(BA×BA)) (id1:BA):W (List Vb):=W.ex fun n=>W.iter1 (qc.l1 l1 s1 (qc.c1 l1 m1 s1 id1)) n (0:Int)
def qm.c1 (x12:(List Vb)):W (List Vb):=W.ret x12
def qm.c2 (i6:Int) (A1:(List Vb)→Int→W (List Vb)) (x27:(List Vb)):W (List Vb):=A1 x27 (w64 (i6+(1:Int)))
def qm.l2 (m1:Map) (i6:Int) (K2:(List Vb)→W (List Vb)) (r27:(List (BA×BA))) (A2:(List Vb)→Int→W (List Vb)) (x30:(List Vb)) (k18:Int):W (List Vb):=W.bind (W.ite (decide (k18<(r27.length:Int))) (qz.F m1 (rd zObject m1.Objects i6)) (W.ret false)) (fun r32=>W.ite ((decide (k18<(r27.length:Int)))&&r32) (W.req (0≤k18∧k18<(r27.length:Int)) (W.bind (qc.F x30 m1 (rd ((⟨#[]⟩:BA),(⟨#[]⟩:BA)) r27 k18) ((rd zObject m1.Objects i6).Id)) (fun r33=>A2 r33 (w64 (k18+(1:Int)))))) (K2 x30))
def qm.l1 (m1:Map) (K1:(List Vb)→W (List Vb)) (A1:(List Vb)→Int→W (List Vb)) (x23:(List Vb)) (i6:Int):W (List Vb):=W.ite (decide (i6<(m1.Objects.length:Int))) (W.req (0≤i6∧i6<(m1.Objects.length:Int)) (W.bind (qr.F (rd zObject m1.Objects i6)) (fun r27=>W.ex fun n=>W.iter2 (qm.l2 m1 i6 (qm.c2 i6 A1) r27) n x23 (0:Int)))) (K1 x23)
def qm.F (m1:Map):W (List Vb):=W.bind (yw.F m1) (fun r1=>W.ite (!r1) (W.ret ([]:List Vb)) (W.ex fun n=>W.iter2 (qm.l1 m1 (qm.c1)) n ([]:List Vb) (0:Int)))
end Go.Gp.Gb
end
section
set_option linter.unusedVariables false
set_option linter.unusedSimpArgs false
set_option maxRecDepth 10000
namespace Go.Gp.Gb
abbrev Key:=ByteArray×ByteArray
abbrev kz:Key:=((⟨#[]⟩:ByteArray),(⟨#[]⟩:ByteArray))
def kLt (a b:Key):Prop:=sLt a.1 b.1=true∨a.1=b.1∧sLt a.2 b.2=true
theorem kLt.irr {a:Key} (h:kLt a a):False:=by
 rcases h with h | ⟨_,h⟩<;>rw [sLt_irr] at h<;>cases h
theorem kLt.trans {a b c:Key} (h:kLt a b) (k:kLt b c):kLt a c:=by
 rcases h with h | ⟨e,h⟩<;>rcases k with k | ⟨e2,k⟩
 ·exact .inl (sLt_trans h k)
 ·exact .inl (e2 ▸ h)
 ·exact .inl (e ▸ k)
 ·exact .inr ⟨e.trans e2,sLt_trans h k⟩
theorem kLt.tri (a b:Key):kLt a b∨a=b∨kLt b a:=by
 rcases sLt_tri a.1 b.1 with h | h | h
 ·exact .inl (.inl h)
 ·rcases sLt_tri a.2 b.2 with k | k | k
  ·exact .inl (.inr ⟨h,k⟩)
  ·exact .inr (.inl (Prod.ext h k))
  ·exact .inr (.inr (.inr ⟨h.symm,k⟩))
 ·exact .inr (.inr (.inl h))
theorem kLt.ne {a b:Key} (h:kLt a b):a≠b:=fun e=>by subst e;exact h.irr
theorem rise_unique {α:Type} {lt:α→α→Prop} (irr:∀ a,¬ lt a a) (tr:∀ a b c,lt a b→lt b c→lt a c):∀ {l l':List α},l.Pairwise lt→l'.Pairwise lt→(∀ s,s∈l↔s∈l')→l=l'
 | [],[],_,_,_=>rfl
 | [],b::l',_,_,h=>by have:=(h b).2 (by simp);cases this
 | a::l,[],_,_,h=>by have:=(h a).1 (by simp);cases this
 | a::l,b::l',h1,h2,h=>by
  rw [List.pairwise_cons] at h1 h2
  have e:a=b:=by
   rcases List.mem_cons.1 ((h a).1 (by simp)) with e | e
   ·exact e
   ·rcases List.mem_cons.1 ((h b).2 (by simp)) with e' | e'
    ·exact e'.symm
    ·exact absurd (tr _ _ _ (h1.1 b e') (h2.1 a e)) (irr _)
  subst e
  congr 1
  refine rise_unique irr tr h1.2 h2.2 fun s=>⟨fun hs=>?_,fun hs=>?_⟩
  ·rcases List.mem_cons.1 ((h s).1 (by simp [hs])) with e | e
   ·subst e;exact absurd (h1.1 s hs) (irr _)
   ·exact e
  ·rcases List.mem_cons.1 ((h s).2 (by simp [hs])) with e | e
   ·subst e;exact absurd (h2.1 s hs) (irr _)
   ·exact e
theorem MapOk.lt {m:Map} (h:MapOk m) {i:Nat}:∀ {j:Nat},i<j→j<m.Objects.length→sLt (ob m i).Id (ob m j).Id=true
 | 0,h1,_=>by omega
 | j+1,h1,h2=>by
  by_cases e:i=j
  ·subst e;exact h.rise i h2
  ·exact sLt_trans (h.lt (j:=j) (by omega) (by omega)) (h.rise j h2)
theorem MapOk.inj {m:Map} (h:MapOk m) {i j:Nat} (hi:i<m.Objects.length) (hj:j<m.Objects.length) (e:(ob m i).Id=(ob m j).Id):i=j:=by
 rcases Nat.lt_trichotomy i j with k | k | k
 ·exact absurd e (sLt_ne (h.lt k hj))
 ·exact k
 ·exact absurd e.symm (sLt_ne (h.lt k hi))
def Holds (m:Map) (id:ByteArray) (j:Nat):Prop:=j<m.Objects.length∧(ob m j).Id=id
def Nd (m:Map) (id:ByteArray):Prop:=∃ j:Nat,Holds m id j∧(ob m j).Kind=1
def SoundP (m:Map) (o:Object):Prop:=∀ i:Nat,i<o.Refs.length→Nd m (rs o.Refs i)
open Classical in
noncomputable def pos (m:Map) (id:ByteArray):Point:=if h:∃ j:Nat,Holds m id j then (ob m h.choose).At else zPoint
theorem pos_eq {m:Map} (h:MapOk m) {id:ByteArray} {j:Nat} (hj:Holds m id j):pos m id=(ob m j).At:=by
 have hx:∃ j:Nat,Holds m id j:=⟨j,hj⟩
 unfold pos
 rw [dif_pos hx]
 have:=hx.choose_spec
 rw [h.inj this.1 hj.1 (this.2.trans hj.2.symm)]
theorem ref13_Find_b {m:Map} (h:MapOk m) {id:ByteArray} {Q:Int→Prop} (hn:(¬ ∃ j:Nat,Holds m id j)→Q (-1)) (hy:∀ j:Nat,Holds m id j→Q (j:Int)):yx.F m id Q:=by
 have hl:=h.few
 refine W.loop2 (fun (f t:Int)=>∃ a b:Nat,f=(a:Int)∧t=(b:Int)∧a≤b∧b≤m.Objects.length∧(∀ j,j<a→sLt (ob m j).Id id=true)∧(∀ j,b≤j→j<m.Objects.length→sLt (ob m j).Id id=false)) (fun f t=>t.toNat-f.toNat) ?_ ⟨0,m.Objects.length,rfl,rfl,by omega,by omega,fun j h=>by omega,fun j h1 h2=>by omega⟩
 rintro K f t ⟨a,b,rfl,rfl,hab,hb,h1,h2⟩ hk
 refine W.dec_i (fun hlt=>?_) (fun hge=>?_)
 ·have e:w64 (Int.tdiv (w64 ((a:Int)+(b:Int))) 2)=(((a+b) / 2:Nat):Int):=by
   rw [w64_id (x:=(a:Int)+(b:Int)) (by omega) (by omega),show (a:Int)+(b:Int)=((a+b:Nat):Int) by omega,show ((2:Int))=((2:Nat):Int) from rfl,← Int.ofNat_tdiv]
   exact w64_id (by omega) (by omega)
  have hc:(a+b) / 2<m.Objects.length:=by omega
  generalize hcc:(a+b) / 2=c at *
  rw [e]
  refine W.req_i ⟨by omega,by omega⟩ (W.ite_i (fun hs=>?_) (fun hs=>?_))
  ·rw [w64_succ (by omega)]
   refine hk _ _ ⟨c+1,b,rfl,rfl,by omega,hb,fun j hj=>?_,h2⟩ (by omega)
   by_cases e2:j=c
   ·subst e2;exact hs
   ·exact sLt_trans (h.lt (show j<c by omega) hc) hs
  ·refine hk _ _ ⟨a,c,rfl,rfl,by omega,by omega,h1,fun j hj1 hj2=>?_⟩ (by omega)
   by_cases e2:j=c
   ·subst e2;exact hs
   ·cases hq:sLt (ob m j).Id id with
    | false=>rfl
    | true=>rw [sLt_trans (h.lt (show c<j by omega) hj2) hq] at hs;cases hs
 ·have hab':a=b:=by omega
  subst hab'
  refine W.req_i (fun hd=>⟨by omega,by simpa using hd⟩) (W.ite_i (fun hd=>?_) (fun hd=>?_))
  ·simp only [Bool.and_eq_true,decide_eq_true_eq,sEq_eq] at hd
   exact hy a ⟨by omega,hd.2⟩
  ·refine hn ?_
   rintro ⟨j,hj,e⟩
   rcases Nat.lt_trichotomy j a with k | k | k
   ·have:=h1 j k;rw [e,sLt_irr] at this;cases this
   ·subst k
    rw [Bool.and_eq_false_iff] at hd
    rcases hd with hd | hd
    ·rw [decide_eq_false_iff_not] at hd;omega
    ·rw [sEq_false] at hd;exact hd e
   ·have:=h2 a (by omega) (by omega)
    have:=h.lt k hj
    rw [e] at this
    rw [h2 a (by omega) (by omega)] at this;cases this
theorem ref13_Sound_b {m:Map} (h:MapOk m) {o:Object} (ho:o.Kind=2∨o.Kind=3) (hr:o.Refs.length≤2000) {Q:Bool→Prop} (hq:∀ b,(b=true↔SoundP m o)→Q b):qz.F m o Q:=by
 refine ⟨2,?_⟩
 refine W.up1 (B:=qz.l1 (qz.Fn 1) m o qz.c1) o.Refs.length (fun i=>∀ k,k<i→Nd m (rs o.Refs k)) (fun k hk=>by omega) (fun K i hi hI hk=>?_)
 refine W.dec_i (fun hlt=>W.req_i ⟨by omega,hlt⟩ (W.bind_i ?_)) (fun hge=>hq true (iff_of_true rfl fun k hk=>hI k (by omega)))
 have hi':i<o.Refs.length:=by omega
 refine ref13_Find_b h (fun hno=>?_) (fun j hj=>?_)
 ·refine W.req_i (fun k=>by simp at k) (W.bind_i (W.req_i (fun k=>by simp at k) (W.bind_i ?_)))
  refine hq false (iff_of_false (by simp) fun hs=>hno ?_)
  obtain ⟨j,hj,_⟩:=hs i hi'
  exact ⟨j,hj⟩
 ·have hj0:¬ ((j:Int)<0):=by omega
  refine W.req_i (fun _=>⟨by omega,by have:=hj.1;omega⟩) (W.bind_i ?_)
  rw [decide_eq_false hj0]
  have ek:((o.Kind==(4:Int))||((o.Kind==(5:Int))&&((i:Int) != (1:Int))))=false:=by
   rcases ho with e | e<;>rw [e]<;>rfl
  show ref13_kind.F o (i:Int) _
  unfold ref13_kind.F
  rw [ek]
  refine W.req_i (fun _=>⟨by omega,by have:=hj.1;omega⟩) (W.bind_i ?_)
  rw [Bool.false_or]
  by_cases hk1:(ob m j).Kind=1
  ·rw [show ((rd zObject m.Objects (j:Int)).Kind != (1:Int))=false by simpa [ob] using hk1]
   have h0:(ob m j).Refs.length=0:=(h.each j hj.1).count.2.1 hk1
   refine ⟨1,?_⟩
   refine W.dec_i (fun k=>by rw [show (rd zObject m.Objects (j:Int))=ob m j from rfl,h0] at k;omega) (fun _=>?_)
   show K (w64 ((i:Int)+1)) Q
   rw [w64_succ (by omega)]
   refine hk hi' fun k hk2=>?_
   by_cases e:k=i
   ·subst e;exact ⟨j,hj,hk1⟩
   ·exact hI k (by omega)
  ·rw [show ((rd zObject m.Objects (j:Int)).Kind != (1:Int))=true by simpa [ob] using hk1]
   refine hq false (iff_of_false (by simp) fun hs=>?_)
   obtain ⟨j',hj',h1'⟩:=hs i hi'
   rw [h.inj hj.1 hj'.1 (hj.2.trans hj'.2.symm)] at hk1
   exact hk1 h1'
def nxt (l:List ByteArray) (i:Nat):ByteArray:=if i+1<l.length then rs l (i+1) else rs l 0
def key (a b:ByteArray):Key:=(sMin a b,sMax a b)
def sidesN (o:Object):Nat:=if o.Kind=3 then o.Refs.length else o.Refs.length-1
def sides (o:Object):List Key:=if o.Kind=2∨o.Kind=3 then (List.range (sidesN o)).map fun i=>key (rs o.Refs i) (nxt o.Refs i) else []
theorem sides_len {o:Object}:(sides o).length≤o.Refs.length:=by
 unfold sides sidesN
 split
 ·rw [List.length_map,List.length_range];split<;>omega
 ·simp
theorem set_mid {α:Type} (A:List α) (b c:α) (B:List α) {n:Nat} (h:n=A.length):(A++b::B).set n c=A++c::B:=by
 subst h
 simp
theorem ref13_Sides_b {o:Object} (hr:o.Refs.length≤2000) (h3:o.Kind=3→1≤o.Refs.length) {Q:List Key→Prop} (hq:Q (sides o)):qr.F o Q:=by
 unfold sides sidesN at hq
 by_cases hk:o.Kind=2∨o.Kind=3
 ·rw [if_pos hk] at hq
  refine W.ite_i (fun k=>by rw [Bool.and_eq_true,bne_iff_ne,bne_iff_ne] at k;omega) (fun _=>?_)
  let raw:Nat→Key:=fun i=>(rs o.Refs i,nxt o.Refs i)
  have c2:∀ n:Nat,n≤2000→Q ((List.range n).map fun i=>key (rs o.Refs i) (nxt o.Refs i))→qr.c2 ((List.range n).map raw) Q:=fun n hn2 hq=>by
   refine W.up2 n (fun i x=>∃ B,(List.range n).map raw=(List.range i).map raw++B∧x=((List.range i).map fun i=>key (rs o.Refs i) (nxt o.Refs i))++B) ⟨_,rfl,rfl⟩ (fun K i x hi hI hK=>?_)
   obtain ⟨B,hB,rfl⟩:=hI
   have hBl:B.length=n-i:=by
    have:=congrArg List.length hB
    simp at this;omega
   refine W.dec_i (fun hlt=>?_) (fun hge=>?_)
   ·have hi':i<n:=by simp at hlt;omega
    match B,hBl with
    | [],e=>simp at e;omega
    | b::B,e=>
     have hb:b=raw i:=by
      have:=congrArg (fun l=>l[i]?) hB
      simp [List.getElem?_append,hi'] at this
      exact this.symm
     refine W.req_i ⟨by omega,hlt⟩ ?_
     rw [w64_succ (by omega)]
     refine hK hi' _ ⟨B,?_,?_⟩
     ·rw [hB,List.range_succ,List.map_append,hb];simp
     ·have hr:rd ((⟨#[]⟩:ByteArray),(⟨#[]⟩:ByteArray)) (((List.range i).map fun i=>key (rs o.Refs i) (nxt o.Refs i))++b::B) (i:Int)=raw i:=by
       unfold rd
       rw [show ((i:Nat):Int).toNat=i by omega,List.getD_eq_getElem?_getD,List.getElem?_append_right (by simp)]
       simp [hb]
      rw [hr,show ((i:Nat):Int).toNat=i by omega,set_mid _ _ _ _ (by simp),List.range_succ,List.map_append]
      simp [raw,key]
   ·have:i=n:=by simp at hge;omega
    subst this
    have:B=[]:=by cases B with
     | nil=>rfl
     | cons=>simp at hBl
    subst this
    rw [List.append_nil]
    exact hq
  refine W.up2 (o.Refs.length-1) (fun i x=>x=(List.range i).map raw) rfl (fun K i x hi hI hK=>?_)
  subst hI
  unfold qr.l2
  rw [show (w64 ((i:Int)+1))=((i+1:Nat):Int) from w64_succ (by omega)]
  refine W.dec_i (fun hlt=>?_) (fun hge=>?_)
  ·have hn:nxt o.Refs i=rs o.Refs (i+1):=if_pos (by omega)
   refine W.req_i ⟨by omega,by omega⟩ (W.req_i ⟨by omega,by omega⟩ (W.req_i ?_ ?_))
   ·simp;omega
   ·refine hK (by omega) _ ?_
    rw [List.range_succ,List.map_append]
    simp only [raw,hn,List.map_cons,List.map_nil]
  ·refine W.ite_i (fun k3=>?_) (fun k3=>?_)
   ·rw [beq_iff_eq] at k3
    have h1:=h3 k3
    rw [if_pos k3] at hq
    have e:w64 ((o.Refs.length:Int)-1)=((o.Refs.length-1:Nat):Int):=by
     rw [w64_id (by omega) (by omega)];omega
    have ei:i=o.Refs.length-1:=by omega
    rw [e,← ei]
    refine W.req_i ⟨by omega,by omega⟩ (W.req_i ⟨by omega,by omega⟩ (W.req_i ?_ ?_))
    ·simp;omega
    ·have hn:nxt o.Refs i=rs o.Refs 0:=if_neg (by omega)
     have:=c2 (i+1) (by omega) (by rw [show i+1=o.Refs.length by omega];exact hq)
     rw [List.range_succ,List.map_append] at this
     simp only [raw,hn,List.map_cons,List.map_nil] at this
     exact this
   ·rw [beq_eq_false_iff_ne] at k3
    rw [if_neg k3] at hq
    have ei:i=o.Refs.length-1:=by omega
    exact c2 i (by omega) (by rw [ei];exact hq)
 ·rw [if_neg hk] at hq
  refine W.ite_i (fun _=>hq) (fun k=>?_)
  rw [Bool.and_eq_false_iff,bne_eq_false_iff_eq,bne_eq_false_iff_eq] at k
  exact absurd k hk
open Classical in
noncomputable def own (m:Map) (n:Nat) (s:Key):List ByteArray:=((List.range n).filter (fun i=>decide (SoundP m (ob m i)∧s∈sides (ob m i)))).map (fun i=>(ob m i).Id)
open Classical in
theorem own_succ {m:Map} {n:Nat} {s:Key}:own m (n+1) s=own m n s++(if SoundP m (ob m n)∧s∈sides (ob m n) then [(ob m n).Id] else []):=by
 unfold own
 rw [List.range_succ,List.filter_append,List.map_append]
 congr 1
 by_cases h:SoundP m (ob m n)∧s∈sides (ob m n)
 ·rw [if_pos h,List.filter_cons_of_pos (by simpa using h)];rfl
 ·rw [if_neg h,List.filter_cons_of_neg (by simpa using h)];rfl
theorem own_mem {m:Map} {n:Nat} {s:Key} {a:ByteArray}:a∈own m n s↔∃ i,i<n∧a=(ob m i).Id∧SoundP m (ob m i)∧s∈sides (ob m i):=by
 unfold own
 simp only [List.mem_map,List.mem_filter,List.mem_range,decide_eq_true_eq]
 constructor
 ·rintro ⟨i,⟨h1,h2⟩,rfl⟩;exact ⟨i,h1,rfl,h2⟩
 ·rintro ⟨i,h1,rfl,h2⟩;exact ⟨i,⟨h1,h2⟩,rfl⟩
theorem own_len {m:Map} {n:Nat} {s:Key}:(own m n s).length≤n:=by
 unfold own
 rw [List.length_map]
 refine Nat.le_trans (List.length_filter_le _ _) ?_
 rw [List.length_range]
 exact Nat.le_refl _
theorem own_fresh {m:Map} (h:MapOk m) {n:Nat} (hn:n<m.Objects.length) {s:Key}:(ob m n).Id∉own m n s:=fun k=>by
 obtain ⟨i,hi,e,_⟩:=own_mem.1 k
 have:=h.inj hn (by omega) e
 omega
structure Ks (ow:Key→List ByteArray) (L:List Key):Prop where
 rise:L.Pairwise kLt
 mem:∀ s,s∈L↔ow s≠[]
theorem Ks.unique {ow:Key→List ByteArray} {L L':List Key} (h:Ks ow L) (h':Ks ow L'):L=L':=
 rise_unique (lt:=kLt) (fun a=>kLt.irr) (fun a b c=>kLt.trans) h.rise h'.rise fun s=>(h.mem s).trans (h'.mem s).symm
noncomputable def bd (m:Map) (ow:Key→List ByteArray) (s:Key):Vb:=⟨s.1,s.2,pos m s.1,pos m s.2,ow s⟩
theorem rd_mid {α:Type} {z:α} {A:List α} {b:α} {B:List α} {n:Nat} (h:n=A.length):rd z (A++b::B) (n:Int)=b:=by
 subst h
 unfold rd
 rw [show ((A.length:Nat):Int).toNat=A.length by omega,List.getD_eq_getElem?_getD,List.getElem?_append_right (by omega)]
 simp
open Classical in
noncomputable def addO (ow:Key→List ByteArray) (s:Key) (id:ByteArray):Key→List ByteArray:=fun t=>if t=s∧(ow s=[]∨rs (ow s) ((ow s).length-1)≠id) then ow t++[id] else ow t
theorem ref13_put_b {m:Map} (h:MapOk m) {s:Key} (h1:∃ j:Nat,Holds m s.1 j) (h2:∃ j:Nat,Holds m s.2 j) {ow:Key→List ByteArray} {L:List Key} (hL:Ks ow L) (hl:L.length≤1000000000000) (ho:(ow s).length≤1000000000000) {id:ByteArray} {Q:List Vb→Prop} (hq:∀ L',Ks (addO ow s id) L'→L'.length≤L.length+1→Q (L'.map (bd m (addO ow s id)))):qc.F (L.map (bd m ow)) m s id Q:=by
 refine W.up1 L.length (fun i=>∃ A B,L=A++B∧A.length=i∧∀ a∈A,kLt a s) ⟨[],L,rfl,rfl,by simp⟩ (fun K i hi hI hK=>?_)
 obtain ⟨A,B,rfl,rfl,hA⟩:=hI
 have hle:((A++B).map (bd m ow)).length=A.length+B.length:=by simp
 have c2:∀ (A B:List Key) (b:Vb) ,b.Owners.length≤1000000000000→((b.Owners=[]∨rs b.Owners (b.Owners.length-1)≠id)→Q (A.map (bd m ow)++{ b with Owners:=b.Owners++[id] }::B.map (bd m ow)))→(¬ (b.Owners=[]∨rs b.Owners (b.Owners.length-1)≠id)→Q (A.map (bd m ow)++b::B.map (bd m ow)))→qc.c2 id (A.length:Int) (A.map (bd m ow)++b::B.map (bd m ow)) Q:=fun A B b hb q1 q2=>by
  have hlen:(A.map (bd m ow)++b::B.map (bd m ow)).length=A.length+1+B.length:=by simp;omega
  unfold qc.c2
  rw [rd_mid (by simp),show ((A.length:Nat):Int).toNat=A.length by omega,set_mid _ _ _ _ (by simp),hlen]
  have hx:0≤(A.length:Int)∧(A.length:Int)<((A.length+1+B.length:Nat):Int):=⟨by omega,by omega⟩
  have e0:∀ k,b.Owners.length=k+1→w64 ((b.Owners.length:Int)-1)=((b.Owners.length-1:Nat):Int):=fun k hk=>by
   rw [w64_id (by omega) (by omega)];omega
  refine W.req_i hx (W.req_i hx (W.req_i (fun _=>hx) (W.req_i (fun _=>hx) (W.req_i (fun k=>?_) (W.ite_i (fun k=>?_) (fun k=>?_))))))
  ·rw [Bool.not_eq_true',beq_eq_false_iff_ne] at k
   rw [e0 (b.Owners.length-1) (by omega)]
   exact ⟨by omega,by omega⟩
  ·refine W.req_i hx (W.req_i hx (W.req_i ?_ (W.req_i ?_ (W.req_i hx (W.req_i hx ?_)))))
   ·simp;omega
   ·simp;omega
   ·refine q1 ?_
    by_cases hz:b.Owners.length=0
    ·exact .inl (List.length_eq_zero_iff.1 hz)
    ·right
     rw [e0 (b.Owners.length-1) (by omega),Bool.or_eq_true,Bool.not_eq_true',sEq_false,beq_iff_eq] at k
     rcases k with k | k
     ·omega
     ·exact k
  ·refine q2 ?_
   rw [Bool.or_eq_false_iff,beq_eq_false_iff_ne,Bool.not_eq_false',sEq_eq] at k
   rw [e0 (b.Owners.length-1) (by omega)] at k
   rintro (hz | hz)
   ·rw [hz] at k;exact k.1 rfl
   ·exact hz k.2
 have sw:∀ T:List Key,s∉T→T.map (bd m ow)=T.map (bd m (addO ow s id)):=fun T hT=>by
  refine List.map_congr_left fun t ht=>?_
  have:t≠s:=fun e=>hT (e ▸ ht)
  unfold bd addO
  rw [if_neg (fun k=>this k.1)]
 have sA:s∉A:=fun k=>(hA s k).irr
 unfold qc.l1
 match B,hL,hl,hi,hK,hle,hq with
 | [],hL,hl,hi,hK,hle,hq=>
  have hlt:(decide ((A.length:Int)<(((A++([]:List Key)).map (bd m ow)).length:Int)))=false:=by simp
  rw [hlt]
  refine W.req_i (fun k=>by simp at k) (W.req_i (fun k=>by simp at k) (W.req_i (fun k=>by simp at k) ?_))
  rw [Bool.false_and]
  show qc.c1 _ m s id (A.length:Int) Q
  have hb:((A.length:Int)==(((A++([]:List Key)).map (bd m ow)).length:Int))=true:=by simp
  unfold qc.c1
  rw [hb]
  refine W.req_i (fun k=>by simp at k) (W.req_i (fun k=>by simp at k) ?_)
  refine W.ite_i (fun _=>W.bind_i (ref13_Find_b h (fun k=>absurd h1 k) fun j1 hj1=>W.req_i ⟨by omega,by have:=hj1.1;omega⟩ (W.bind_i (ref13_Find_b h (fun k=>absurd h2 k) fun j2 hj2=>W.req_i ⟨by omega,by have:=hj2.1;omega⟩ ?_)))) (fun k=>by simp at k)
  have hs0:ow s=[]:=by
   apply Classical.byContradiction
   intro k
   have:=(hL.mem s).2 k
   rw [List.append_nil] at this
   exact sA this
  have p1:=pos_eq h hj1
  have p2:=pos_eq h hj2
  simp only [List.append_nil] at hL hl ⊢
  refine W.req_i ⟨by omega,by simp⟩ (W.req_i (by simp) (W.req_i (by simp;omega) (W.req_i (by simp;omega) (W.req_i (by simp) (W.req_i (by simp;omega) ?_)))))
  have e:((([]:List Vb)++(((A.map (bd m ow)).take ((A.length:Int)).toNat).drop 0))++([⟨s.1,s.2,(rd zObject m.Objects (j1:Int)).At,(rd zObject m.Objects (j2:Int)).At,([]:List ByteArray)⟩]:List Vb))++(((A.map (bd m ow)).take (A.map (bd m ow)).length).drop ((A.length:Int)).toNat)=A.map (bd m ow)++(⟨s.1,s.2,pos m s.1,pos m s.2,[]⟩:Vb)::([]:List Key).map (bd m ow):=by
   rw [p1,p2,List.take_of_length_le (by simp)];simp [ob]
  rw [e]
  refine c2 A [] _ (by simp) (fun _=>?_) (fun k=>absurd (.inl rfl) k)
  have:=hq (A++[s]) ⟨?_,fun t=>?_⟩ (by simp)
  ·rw [List.map_append,← sw A sA] at this
   have ea:bd m (addO ow s id) s=(⟨s.1,s.2,pos m s.1,pos m s.2,[id]⟩:Vb):=by
    unfold bd addO
    rw [if_pos ⟨rfl,.inl hs0⟩,hs0];rfl
   simpa [ea] using this
  ·rw [List.pairwise_append]
   exact ⟨hL.rise,by simp,fun a ha b hb=>by simp at hb;subst hb;exact hA a ha⟩
  ·unfold addO
   rw [List.mem_append,List.mem_singleton,hL.mem]
   by_cases et:t=s
   ·subst et;rw [if_pos ⟨rfl,.inl hs0⟩];simp
   ·rw [if_neg (fun k=>et k.1)];simp [et]
 | b::B,hL,hl,hi,hK,hle,hq=>
  have hlt:(decide ((A.length:Int)<(((A++b::B).map (bd m ow)).length:Int)))=true:=by simp;omega
  have hx:0≤(A.length:Int)∧(A.length:Int)<(((A++b::B).map (bd m ow)).length:Int):=⟨by omega,by simpa using hlt⟩
  have hrd:rd Je ((A++b::B).map (bd m ow)) (A.length:Int)=bd m ow b:=by
   rw [List.map_append,List.map_cons];exact rd_mid (by simp)
  rw [hlt,hrd]
  refine W.req_i (fun _=>hx) (W.req_i (fun _=>hx) (W.req_i (fun _=>hx) (W.ite_i (fun k=>?_) (fun k=>?_))))
  ·rw [w64_succ (by simp at hl;omega)]
   refine hK (by simp) ⟨A++[b],B,by simp,by simp,fun a ha=>?_⟩
   rcases List.mem_append.1 ha with ha | ha
   ·exact hA a ha
   ·rw [List.mem_singleton] at ha
    subst ha
    rw [Bool.true_and,Bool.or_eq_true,Bool.and_eq_true,sEq_eq] at k
    exact k
  ·have hge:¬ kLt b s:=fun hh=>by
    have:(true&&(sLt (bd m ow b).A s.1||(sEq (bd m ow b).A s.1&&sLt (bd m ow b).B s.2)))=true:=by
     rw [Bool.true_and,Bool.or_eq_true,Bool.and_eq_true,sEq_eq];exact hh
    rw [this] at k;cases k
   have hne:((A.length:Int)==(((A++b::B).map (bd m ow)).length:Int))=false:=by rw [beq_eq_false_iff_ne];simp;omega
   have hr:=List.pairwise_append.1 hL.rise
   have hrB:=List.pairwise_cons.1 hr.2.1
   unfold qc.c1
   rw [hne,hrd]
   refine W.req_i (fun _=>hx) (W.req_i (fun _=>hx) (W.ite_i (fun k=>?_) (fun k=>?_)))
   ·have nb:s≠b:=by
     rintro rfl
     rw [Bool.or_eq_true,Bool.or_eq_true,Bool.not_eq_true',Bool.not_eq_true',sEq_false,sEq_false] at k
     rcases k with (k | k) | k
     ·cases k
     ·exact k rfl
     ·exact k rfl
    have hsb:kLt s b:=by
     rcases kLt.tri s b with k | k | k
     ·exact k
     ·exact absurd k nb
     ·exact absurd k hge
    have sB:s∉b::B:=fun hh=>by
     rcases List.mem_cons.1 hh with hh | hh
     ·exact nb hh
     ·exact (kLt.trans hsb (hrB.1 s hh)).irr
    have hs0:ow s=[]:=by
     apply Classical.byContradiction
     intro k
     rcases List.mem_append.1 ((hL.mem s).2 k) with k | k
     ·exact sA k
     ·exact sB k
    refine W.bind_i (ref13_Find_b h (fun k=>absurd h1 k) fun j1 hj1=>W.req_i ⟨by omega,by have:=hj1.1;omega⟩ (W.bind_i (ref13_Find_b h (fun k=>absurd h2 k) fun j2 hj2=>W.req_i ⟨by omega,by have:=hj2.1;omega⟩ ?_)))
    have p1:=pos_eq h hj1
    have p2:=pos_eq h hj2
    have hl':A.length+(B.length+1)≤1000000000000:=by simpa using hl
    refine W.req_i ⟨by omega,by simp;omega⟩ (W.req_i (by simp) (W.req_i (by simp;omega) (W.req_i (by simp;omega) (W.req_i (by simp) (W.req_i (by simp;omega) ?_)))))
    have e:((([]:List Vb)++((((A++b::B).map (bd m ow)).take ((A.length:Int)).toNat).drop 0))++([⟨s.1,s.2,(rd zObject m.Objects (j1:Int)).At,(rd zObject m.Objects (j2:Int)).At,([]:List ByteArray)⟩]:List Vb))++((((A++b::B).map (bd m ow)).take ((A++b::B).map (bd m ow)).length).drop ((A.length:Int)).toNat)=A.map (bd m ow)++(⟨s.1,s.2,pos m s.1,pos m s.2,[]⟩:Vb)::(b::B).map (bd m ow):=by
     rw [p1,p2,List.take_length,List.map_append,show ((A.length:Nat):Int).toNat=(A.map (bd m ow)).length by simp,List.take_left,List.drop_left];simp [ob]
    rw [e]
    refine c2 A (b::B) _ (by simp) (fun _=>?_) (fun k=>absurd (.inl rfl) k)
    have:=hq (A++s::b::B) ⟨?_,fun t=>?_⟩ (by simp;omega)
    ·rw [List.map_append,List.map_cons,← sw A sA,← sw _ sB] at this
     have ea:bd m (addO ow s id) s=(⟨s.1,s.2,pos m s.1,pos m s.2,[id]⟩:Vb):=by
      unfold bd addO
      rw [if_pos ⟨rfl,.inl hs0⟩,hs0];rfl
     rw [ea] at this
     exact this
    ·rw [List.pairwise_append,List.pairwise_cons]
     refine ⟨hr.1,⟨fun t ht=>?_,hr.2.1⟩,fun a ha c hc=>?_⟩
     ·rcases List.mem_cons.1 ht with rfl | ht
      ·exact hsb
      ·exact hsb.trans (hrB.1 t ht)
     ·rcases List.mem_cons.1 hc with rfl | hc
      ·exact hA a ha
      ·exact hr.2.2 a ha c hc
    ·unfold addO
     have:=hL.mem t
     rw [List.mem_append] at this
     rw [List.mem_append,List.mem_cons]
     by_cases et:t=s
     ·subst et;rw [if_pos ⟨rfl,.inl hs0⟩];simp
     ·rw [if_neg (fun k=>et k.1),← this];simp [et]
   ·rw [Bool.or_eq_false_iff,Bool.or_eq_false_iff,Bool.not_eq_false',Bool.not_eq_false',sEq_eq,sEq_eq] at k
    have es:b=s:=Prod.ext k.1.2 k.2
    subst es
    have sB:b∉B:=fun hh=>(hrB.1 b hh).irr
    have e:(A++b::B).map (bd m ow)=A.map (bd m ow)++bd m ow b::B.map (bd m ow):=by simp
    rw [e]
    have fin:Ks (addO ow b id) (A++b::B):=⟨hL.rise,fun t=>by
     rw [hL.mem]
     unfold addO
     split
     ·rename_i hh
      constructor
      ·intro _;simp
      ·intro _;rw [hh.1];exact (hL.mem b).1 (by simp)
     ·exact Iff.rfl⟩
    have:=hq _ fin (by omega)
    rw [List.map_append,List.map_cons,← sw A sA,← sw B sB] at this
    refine c2 A B _ ho (fun hc=>?_) (fun hc=>?_)
    ·have ea:bd m (addO ow b id) b={ bd m ow b with Owners:=(bd m ow b).Owners++[id] }:=by
      unfold bd addO
      rw [if_pos ⟨rfl,hc⟩]
     rw [ea] at this;exact this
    ·have ea:bd m (addO ow b id) b=bd m ow b:=by
      unfold bd addO
      rw [if_neg (fun hh=>hc hh.2)]
     rw [ea] at this;exact this
open Classical in
noncomputable def ownK (m:Map) (n k:Nat) (s:Key):List ByteArray:=own m n s++(if SoundP m (ob m n)∧s∈(sides (ob m n)).take k then [(ob m n).Id] else [])
theorem ownK_zero {m:Map} {n:Nat}:ownK m n 0=own m n:=by
 funext s;unfold ownK;simp
theorem ownK_all {m:Map} {n k:Nat} (hk:(sides (ob m n)).length≤k∨¬ SoundP m (ob m n)):ownK m n k=own m (n+1):=by
 funext s
 rw [own_succ]
 unfold ownK
 rcases hk with h | h
 ·rw [List.take_of_length_le h]
 ·rw [if_neg (fun k=>h k.1),if_neg (fun k=>h k.1)]
theorem ownK_mem {m:Map} (h:MapOk m) {n k:Nat} (hn:n<m.Objects.length) (hs:SoundP m (ob m n)) {s:Key}:(ob m n).Id∈ownK m n k s↔s∈(sides (ob m n)).take k:=by
 unfold ownK
 rw [List.mem_append]
 constructor
 ·rintro (k | k)
  ·exact absurd k (own_fresh h hn)
  ·split at k
   ·rename_i hh;exact hh.2
   ·cases k
 ·intro k;right;rw [if_pos ⟨hs,k⟩];simp
open Classical in
theorem ownK_succ {m:Map} (h:MapOk m) {n k:Nat} (hn:n<m.Objects.length) (hs:SoundP m (ob m n)) (hk:k<(sides (ob m n)).length) (t:Key):ownK m n (k+1) t=if t=(sides (ob m n))[k]∧(sides (ob m n))[k]∉(sides (ob m n)).take k then ownK m n k t++[(ob m n).Id] else ownK m n k t:=by
 unfold ownK
 rw [List.take_add_one,List.getElem?_eq_getElem hk]
 simp only [Option.toList_some,List.mem_append,List.mem_singleton]
 by_cases e:t=(sides (ob m n))[k]
 ·subst e
  by_cases hm:(sides (ob m n))[k]∈(sides (ob m n)).take k
  ·rw [if_pos ⟨hs,.inl hm⟩,if_neg (fun k=>k.2 hm),if_pos ⟨hs,hm⟩]
  ·rw [if_pos ⟨hs,.inr rfl⟩,if_pos ⟨rfl,hm⟩,if_neg (fun k=>hm k.2),List.append_nil]
 ·rw [if_neg (c:=t=(sides (ob m n))[k]∧_) (fun k=>e k.1)]
  congr 1
  simp [e]
theorem ownK_len {m:Map} {n k:Nat} {s:Key}:(ownK m n k s).length≤n+1:=by
 unfold ownK
 rw [List.length_append]
 have:=own_len (m:=m) (n:=n) (s:=s)
 split<;>simp<;>omega
theorem rs_last {l:List ByteArray} {x:ByteArray}:rs (l++[x]) ((l++[x]).length-1)=x:=by
 have:(l++[x]).length-1=l.length:=by simp
 rw [this];exact rd_mid rfl
theorem rs_mem {l:List ByteArray} {i:Nat} (h:i<l.length):rs l i∈l:=by
 unfold rs;rw [rd_nat h];exact List.getElem_mem h
theorem ownK_add {m:Map} (h:MapOk m) {n k:Nat} (hn:n<m.Objects.length) (hs:SoundP m (ob m n)) (hk:k<(sides (ob m n)).length):addO (ownK m n k) (sides (ob m n))[k] (ob m n).Id=ownK m n (k+1):=by
 funext t
 rw [ownK_succ h hn hs hk]
 unfold addO
 have e:(ownK m n k (sides (ob m n))[k]=[]∨rs (ownK m n k (sides (ob m n))[k]) ((ownK m n k (sides (ob m n))[k]).length-1)≠(ob m n).Id)↔(sides (ob m n))[k]∉(sides (ob m n)).take k:=by
  rw [← ownK_mem h hn hs]
  constructor
  ·rintro (e | e) hm
   ·rw [e] at hm;cases hm
   ·apply e
    have hm':=(ownK_mem h hn hs).1 hm
    have e2:ownK m n k (sides (ob m n))[k]=own m n (sides (ob m n))[k]++[(ob m n).Id]:=by unfold ownK;rw [if_pos ⟨hs,hm'⟩]
    rw [e2]
    exact rs_last
  ·intro hm
   by_cases e:ownK m n k (sides (ob m n))[k]=[]
   ·exact .inl e
   ·right
    intro e2
    apply hm
    have hl:(ownK m n k (sides (ob m n))[k]).length-1<(ownK m n k (sides (ob m n))[k]).length:=by
     have:=List.length_pos_iff.2 e
     omega
    have:=rs_mem hl
    rw [e2] at this
    exact this
 by_cases c:t=(sides (ob m n))[k]∧(sides (ob m n))[k]∉(sides (ob m n)).take k
 ·rw [if_pos ⟨c.1,e.2 c.2⟩,if_pos c]
 ·rw [if_neg (fun hh=>c ⟨hh.1,e.1 hh.2⟩),if_neg c]
theorem sMin_or (a b:ByteArray):sMin a b=a∨sMin a b=b:=by
 unfold sMin;split
 ·exact .inl rfl
 ·exact .inr rfl
theorem sMax_or (a b:ByteArray):sMax a b=a∨sMax a b=b:=by
 unfold sMax;split
 ·exact .inl rfl
 ·exact .inr rfl
theorem sides_refs {o:Object} {s:Key} (h:s∈sides o):(∃ i:Nat,i<o.Refs.length∧s.1=rs o.Refs i)∧∃ i:Nat,i<o.Refs.length∧s.2=rs o.Refs i:=by
 unfold sides at h
 split at h
 ·simp only [List.mem_map,List.mem_range] at h
  obtain ⟨i,hi,rfl⟩:=h
  have hi':i<o.Refs.length:=by unfold sidesN at hi;split at hi<;>omega
  have hn:∃ j:Nat,j<o.Refs.length∧nxt o.Refs i=rs o.Refs j:=by
   unfold nxt
   split
   ·rename_i hh;exact ⟨i+1,hh,rfl⟩
   ·exact ⟨0,by omega,rfl⟩
  obtain ⟨j,hj,ej⟩:=hn
  unfold key
  constructor
  ·rcases sMin_or (rs o.Refs i) (nxt o.Refs i) with e | e
   ·exact ⟨i,hi',e⟩
   ·exact ⟨j,hj,e.trans ej⟩
  ·rcases sMax_or (rs o.Refs i) (nxt o.Refs i) with e | e
   ·exact ⟨i,hi',e⟩
   ·exact ⟨j,hj,e.trans ej⟩
 ·cases h
theorem sides_held {m:Map} {o:Object} (hs:SoundP m o) {s:Key} (h:s∈sides o):(∃ j:Nat,Holds m s.1 j)∧∃ j:Nat,Holds m s.2 j:=by
 obtain ⟨⟨i,hi,e⟩,⟨j,hj,e2⟩⟩:=sides_refs h
 obtain ⟨a,ha,_⟩:=hs i hi
 obtain ⟨b,hb,_⟩:=hs j hj
 exact ⟨⟨a,e ▸ ha⟩,⟨b,e2 ▸ hb⟩⟩
noncomputable abbrev owners (m:Map):Key→List ByteArray:=own m m.Objects.length
theorem ref13_Borders_b {m:Map} (hf:MapFit m) {Q:List Vb→Prop} (hn:¬ MapOk m→Q []) (hq:MapOk m→∀ L,Ks (owners m) L→L.length≤2001*m.Objects.length→Q (L.map (bd m (owners m)))):qm.F m Q:=by
 refine W.bind_i (ref13_Valid_b hf fun b hb=>W.ite_i (fun k=>hn fun hv=>?_) (fun k=>?_))
 ·rw [hb.2 hv] at k;cases k
 have h:MapOk m:=by rw [Bool.not_eq_false'] at k;exact hb.1 k
 have hl:=h.few
 refine W.up2 m.Objects.length (fun i x=>∃ L,Ks (own m i) L∧L.length≤2001*i∧x=L.map (bd m (own m i))) ⟨[],⟨by simp,fun s=>by simp [own]⟩,by simp,rfl⟩ (fun K i x hi hI hK=>?_)
 obtain ⟨L,hL,hll,rfl⟩:=hI
 refine W.dec_i (fun hlt=>W.req_i ⟨by omega,hlt⟩ (W.bind_i ?_)) (fun hge=>?_)
 ·have hi':i<m.Objects.length:=by omega
  have ho:=h.each i hi'
  have hc:=ho.count
  refine ref13_Sides_b (o:=ob m i) hc.1 (fun k=>by have:=hc.2.2.2.1 k;omega) ?_
  have hsl:=sides_len (o:=ob m i)
  have hc1:=hc.1
  refine W.up2 (sides (ob m i)).length (fun k x=>∃ L,Ks (ownK m i k) L∧L.length≤2001*i+k∧x=L.map (bd m (ownK m i k))) ⟨L,by rw [ownK_zero];exact hL,by omega,by rw [ownK_zero]⟩ (fun K2 k x hk hI2 hK2=>?_)
  obtain ⟨L2,hL2,hll2,rfl⟩:=hI2
  have done:((sides (ob m i)).length≤k∨¬ SoundP m (ob m i))→qm.c2 (i:Int) K (L2.map (bd m (ownK m i k))) Q:=fun hd=>by
   show K _ (w64 ((i:Int)+1)) Q
   rw [w64_succ (by omega)]
   rw [ownK_all hd] at hL2 ⊢
   exact hK hi' _ ⟨L2,hL2,by omega,rfl⟩
  unfold qm.l2
  by_cases hd:(k:Int)<((sides (ob m i)).length:Int)
  ·rw [decide_eq_true hd]
   have hk':k<(sides (ob m i)).length:=by omega
   have hkind:(ob m i).Kind=2∨(ob m i).Kind=3:=by
    apply Classical.byContradiction
    intro hh
    unfold sides at hk'
    rw [if_neg hh] at hk'
    simp at hk'
   refine W.bind_i (ref13_Sound_b h (o:=ob m i) hkind hc1 fun b hb=>?_)
   rw [Bool.true_and]
   refine W.ite_i (fun hbt=>?_) (fun hbf=>done (.inr fun hs=>by rw [hb.2 hs] at hbf;cases hbf))
   have hs:=hb.1 hbt
   refine W.req_i ⟨by omega,hd⟩ (W.bind_i ?_)
   have er:rd ((⟨#[]⟩:ByteArray),(⟨#[]⟩:ByteArray)) (sides (ob m i)) (k:Int)=(sides (ob m i))[k]:=rd_nat hk'
   rw [er]
   have hh:=sides_held hs (List.getElem_mem hk')
   have hol:=ownK_len (m:=m) (n:=i) (k:=k) (s:=(sides (ob m i))[k])
   refine ref13_put_b h hh.1 hh.2 hL2 (by omega) (by omega) fun L3 hL3 hll3=>?_
   rw [show addO (ownK m i k) (sides (ob m i))[k] (rd zObject m.Objects (i:Int)).Id=ownK m i (k+1) from ownK_add h hi' hs hk'] at hL3 ⊢
   rw [w64_succ (by omega)]
   exact hK2 hk' _ ⟨L3,hL3,by omega,rfl⟩
  ·rw [decide_eq_false hd]
   refine W.bind_i ?_
   show qm.c2 (i:Int) K (L2.map (bd m (ownK m i k))) Q
   exact done (.inl (by omega))
 ·have:i=m.Objects.length:=by omega
  subst this
  exact hq h L hL hll
end Go.Gp.Gb
end
