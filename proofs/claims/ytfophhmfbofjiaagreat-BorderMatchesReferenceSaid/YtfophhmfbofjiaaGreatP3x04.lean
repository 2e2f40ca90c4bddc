/- A part of the proof: see the last part. -/
import Derived.Test.YtfophhmfbofjiaaGreatP3x03
import Derived.Test.YtfophhmfbofjiaaGreatRows
import Derived.Carry
section
set_option linter.unusedVariables false
set_option linter.unusedSimpArgs false
set_option maxRecDepth 100000
namespace Go.Gp.Gb
open Go.Proofs
def ref13_put__o.c2 (id1:BA) (at4:Int) (x2:(List ref13_Border)):W (List ref13_Border):=W.req (0≤at4∧at4<(x2.length:Int)) (W.req (0≤at4∧at4<(x2.length:Int)) (W.req ((!((((rd vz x2 at4).Owners).length:Int)==(0:Int)))=true→0≤at4∧at4<(x2.length:Int)) (W.req ((!((((rd vz x2 at4).Owners).length:Int)==(0:Int)))=true→0≤at4∧at4<(x2.length:Int)) (W.req ((!((((rd vz x2 at4).Owners).length:Int)==(0:Int)))=true→0≤(w64 ((((rd vz x2 at4).Owners).length:Int)-(1:Int)))∧(w64 ((((rd vz x2 at4).Owners).length:Int)-(1:Int)))<(((rd vz x2 at4).Owners).length:Int)) (W.ite (((((rd vz x2 at4).Owners).length:Int)==(0:Int))||(!(sEq (rd (⟨#[]⟩:BA) ((rd vz x2 at4).Owners) (w64 ((((rd vz x2 at4).Owners).length:Int)-(1:Int)))) id1))) (W.req (0≤at4∧at4<(x2.length:Int)) (W.req (0≤at4∧at4<(x2.length:Int)) (W.req ((([]:List BA).length+((rd vz x2 at4).Owners).length)*16≤140737488355328∧([]:List BA).length+((rd vz x2 at4).Owners).length≤140737488355328) (W.req (((([]:List BA)++((rd vz x2 at4).Owners)).length+([id1]:List BA).length)*16≤140737488355328∧(([]:List BA)++((rd vz x2 at4).Owners)).length+([id1]:List BA).length≤140737488355328) (W.req (0≤at4∧at4<(x2.length:Int)) (W.req (0≤at4∧at4<(x2.length:Int)) (W.ret (x2.set at4.toNat ({ (rd vz x2 at4) with Owners:=((([]:List BA)++((rd vz x2 at4).Owners))++([id1]:List BA)) }:ref13_Border))))))))) (W.ret x2))))))
def ref13_put__o.c3 (l1:(List ref13_Border)) (at4:Int) (K2:(List ref13_Border)→W (List ref13_Border)) (x3:ref13_Border):W (List ref13_Border):=W.req (0≤at4∧at4≤(l1.length:Int)) (W.req (at4.toNat≤l1.length) (W.req ((([]:List ref13_Border).length+((l1.take at4.toNat).drop 0).length)*88≤140737488355328∧([]:List ref13_Border).length+((l1.take at4.toNat).drop 0).length≤140737488355328) (W.req (((([]:List ref13_Border)++((l1.take at4.toNat).drop 0)).length+([x3]:List ref13_Border).length)*88≤140737488355328∧(([]:List ref13_Border)++((l1.take at4.toNat).drop 0)).length+([x3]:List ref13_Border).length≤140737488355328) (W.req (l1.length≤l1.length) (W.req ((((([]:List ref13_Border)++((l1.take at4.toNat).drop 0))++([x3]:List ref13_Border)).length+((l1.take l1.length).drop at4.toNat).length)*88≤140737488355328∧((([]:List ref13_Border)++((l1.take at4.toNat).drop 0))++([x3]:List ref13_Border)).length+((l1.take l1.length).drop at4.toNat).length≤140737488355328) (K2 (((([]:List ref13_Border)++((l1.take at4.toNat).drop 0))++([x3]:List ref13_Border))++((l1.take l1.length).drop at4.toNat))))))))
def ref13_put__o.c1 (l1:(List ref13_Border)) (m1:Map) (s1:(BA×BA)) (id1:BA) (at4:Int):W (List ref13_Border):=W.req ((!(at4==(l1.length:Int)))=true→0≤at4∧at4<(l1.length:Int)) (W.req ((!((at4==(l1.length:Int))||(!(sEq ((rd vz l1 at4).A) s1.1))))=true→0≤at4∧at4<(l1.length:Int)) (W.ite (((at4==(l1.length:Int))||(!(sEq ((rd vz l1 at4).A) s1.1)))||(!(sEq ((rd vz l1 at4).B) s1.2))) (W.bind (ref13_Find.F m1 s1.1) (fun r5=>W.req (0≤r5∧r5<(m1.Objects.length:Int)) (W.bind (ref13_Find.F m1 s1.2) (fun r6=>W.req (0≤r6∧r6<(m1.Objects.length:Int)) ((ref13_put__o.c3 l1 at4 (ref13_put__o.c2 id1 at4)) (⟨s1.1,s1.2,(rd zObject m1.Objects r5).At,(rd zObject m1.Objects r6).At,([]:List BA)⟩:ref13_Border)))))) ((ref13_put__o.c2 id1 at4) l1)))
def ref13_put__o.l1 (l1:(List ref13_Border)) (s1:(BA×BA)) (K1:Int→W (List ref13_Border)) (A1:Int→W (List ref13_Border)) (at7:Int):W (List ref13_Border):=W.req ((decide (at7<(l1.length:Int)))=true→0≤at7∧at7<(l1.length:Int)) (W.req (((decide (at7<(l1.length:Int)))&&!(sLt ((rd vz l1 at7).A) s1.1))=true→0≤at7∧at7<(l1.length:Int)) (W.req ((((decide (at7<(l1.length:Int)))&&!(sLt ((rd vz l1 at7).A) s1.1))&&(sEq ((rd vz l1 at7).A) s1.1))=true→0≤at7∧at7<(l1.length:Int)) (W.ite ((decide (at7<(l1.length:Int)))&&((sLt ((rd vz l1 at7).A) s1.1)||((sEq ((rd vz l1 at7).A) s1.1)&&(sLt ((rd vz l1 at7).B) s1.2)))) (A1 (w64 (at7+(1:Int)))) (K1 at7))))
def ref13_put__o.F (l1:(List ref13_Border)) (m1:Map) (s1:(BA×BA)) (id1:BA):W (List ref13_Border):=W.ex fun n=>W.iter1 (ref13_put__o.l1 l1 s1 (ref13_put__o.c1 l1 m1 s1 id1)) n (0:Int)
theorem ref13_put__o.ok {l1:(List ref13_Border)} {v1:Value} {m1:Map} {s1:(BA×BA)} {id1:BA} {Q:(List ref13_Border)→Prop} (hF:ref13_put__o.F l1 m1 s1 id1 Q):Con Tryz.prog 53 [.eq v1,.tv kMap m1,.tv (kPair kStr kStr) s1,.tv kStr id1] [.row v1 49 kref13_Border l1] (fun ta rs'=>∃ (r:(List ref13_Border)) (u0:Value),Q r∧ta=.eq u0∧rs'=[.row u0 49 kref13_Border r]):=by
 refine Con.i Tryz.func53 Tryz.ntmps53 R R (fun C=>?_)
 unfold ref13_put__o.F at hF
 refine At.seq (At.region (At.f R (jw R R R (ja R)) ?_))
 rintro _ _ ⟨g1,rfl,rfl⟩
 refine At.f R (jw R R R (ja R)) ?_
 rintro _ _ ⟨g2,rfl,rfl⟩
 refine At.d R R R R (jd (x:=(.eq (.slice none 0 0))) (opd_eq _)) ?_
 refine At.done (At.vh (At.seq (At.region (At.d R R R R (jd (x:=(.tv (kInt .i64) (0:Int))) (ji _ _)) ?_))))
 refine At.done (At.vh ?_)
 refine At.cut (fun rs L=>∃ (at4:Int),ref13_put__o.c1 l1 m1 s1 id1 at4 Q∧rs=[.row v1 49 kref13_Border l1,.box g1 24 kMap m1,.box g2 50 (kPair kStr kStr) s1]∧L=mkL [(0,(.eq v1)),(3,(.tv kStr id1)),(5,(.eq (.pointer (some ⟨g1,0,none⟩)))),(6,(.eq (.pointer (some ⟨g2,0,none⟩)))),(9,(.tv (kInt .i64) at4))]) ?_ ?_
 ·refine At.block ?_
  obtain ⟨n1,hF⟩:=hF
  refine At.w [2,1,0] R [(0,(.eq v1)),(3,(.tv kStr id1)),(5,(.eq (.pointer (some ⟨g1,0,none⟩)))),(6,(.eq (.pointer (some ⟨g2,0,none⟩)))),(9,(.tv (kInt .i64) (0:Int)))] ⟨R,R,R,R,R,trivial⟩ ?_
  refine At.loop (fun m rs L=>∃ (at7:Int),W.iter1 (ref13_put__o.l1 l1 s1 (ref13_put__o.c1 l1 m1 s1 id1)) m at7 Q∧rs=[.row v1 49 kref13_Border l1,.box g1 24 kMap m1,.box g2 50 (kPair kStr kStr) s1]∧L=mkL [(0,(.eq v1)),(3,(.tv kStr id1)),(5,(.eq (.pointer (some ⟨g1,0,none⟩)))),(6,(.eq (.pointer (some ⟨g2,0,none⟩)))),(9,(.tv (kInt .i64) at7))]) ?_ ?_ (m:=n1) ⟨(0:Int),hF,R,R⟩
  ·rintro rs L ⟨_,hF,_,_⟩;exact hF
  ·rintro m2 _ _ ⟨at7,hF,rfl,rfl⟩
   replace hF:=W.iter1_s hF
   unfold ref13_put__o.l1 at hF
   refine At.seq (At.seq ?_)
   refine At.draw mixed [0,1,2] R [[],[],[]] (fun φ w hgd=>?_)
   obtain ⟨hq46,hF⟩:=hF
   obtain ⟨hq47,hF⟩:=hF
   obtain ⟨hq48,hF⟩:=hF
   refine AtH.take [0,1,2] hgd 0 R R R R (D':=#[Y,N,N,N,N,N,N,N,N,N,N,N,N,N,N,N,N,N,N,N,N,N,N,N,N,N,N,N,N,N,N,N,N,N]) (by kernel_rfl) (fun _ _ _ _ h=>h) R (jb (x:=(.tv (kInt .i64) at7)) (ja R)) ?_
   refine AtH.take [0,1,2] hgd 1 R R R R (D':=#[Y,Y,N,N,N,N,N,N,N,N,N,N,N,N,N,N,N,N,N,N,N,N,N,N,N,N,N,N,N,N,N,N,N,N]) (by kernel_rfl) (fun _ _ _ _ h=>h) R (jb (x:=(.eq v1)) (ja R)) ?_
   refine AtH.take [0,1,2] hgd 2 R R R R (D':=#[Y,Y,Y,N,N,N,N,N,N,N,N,N,N,N,N,N,N,N,N,N,N,N,N,N,N,N,N,N,N,N,N,N,N,N]) (by kernel_rfl) (fun _ _ _ _ h=>h) R (does_len_row (ja R) 0 R Tryz.underlying45) ?_
   refine AtH.take [0,1,2] hgd 3 R R R R (D':=#[Y,Y,Y,Y,N,N,N,N,N,N,N,N,N,N,N,N,N,N,N,N,N,N,N,N,N,N,N,N,N,N,N,N,N,N]) (by kernel_rfl) (fun _ _ _ _ h=>h) R (jk (ja R) (ja R) vd) ?_
   refine AtH.take [0,1,2] hgd 4 R R R R (D':=#[Y,Y,Y,Y,Y,N,N,N,N,N,N,N,N,N,N,N,N,N,N,N,N,N,N,N,N,N,N,N,N,N,N,N,N,N]) (by kernel_rfl) (fun _ _ _ _ h=>h) R (jb (x:=(.tv kBool (decide (at7<(l1.length:Int))))) (ja R)) ?_
   refine AtH.vk [0,1,2] hgd 5 R R R (ju R) R R (D':=#[Y,Y,Y,Y,Y,Y,N,N,N,N,N,N,N,N,N,N,N,N,N,N,N,N,N,N,N,N,N,N,N,N,N,N,N,N]) (by kernel_rfl) (fun _ _ _ _ h=>h) R (fun hg328=>(jb (x:=(.eq v1)) (ja R))) ?_
   refine AtH.vk [0,1,2] hgd 6 R R R (ju R) R R (D':=#[Y,Y,Y,Y,Y,Y,Y,N,N,N,N,N,N,N,N,N,N,N,N,N,N,N,N,N,N,N,N,N,N,N,N,N,N,N]) (by kernel_rfl) (fun _ _ _ _ h=>h) R (fun hg329=>(jb (x:=(.tv (kInt .i64) at7)) (ja R))) ?_
   refine AtH.vk [0,1,2] hgd 7 R R R (ju R) R R (D':=#[Y,Y,Y,Y,Y,Y,Y,Y,N,N,N,N,N,N,N,N,N,N,N,N,N,N,N,N,N,N,N,N,N,N,N,N,N,N]) (by kernel_rfl) (fun _ _ _ _ h=>h) R (fun hg330=>(does_idx_row (jh R hg330) 0 R (jh R hg330) Tryz.underlying45 ty_49 (hq46 hg330))) ?_
   refine AtH.vk [0,1,2] hgd 8 R R R (ju R) R R (D':=#[Y,Y,Y,Y,Y,Y,Y,Y,Y,N,N,N,N,N,N,N,N,N,N,N,N,N,N,N,N,N,N,N,N,N,N,N,N,N]) (by kernel_rfl) (fun _ _ _ _ h=>h) R (fun hg331=>(does_field_elem (jh R hg331) fa_49_0)) ?_
   refine AtH.vk [0,1,2] hgd 9 R R R (ju R) R R (D':=#[Y,Y,Y,Y,Y,Y,Y,Y,Y,Y,N,N,N,N,N,N,N,N,N,N,N,N,N,N,N,N,N,N,N,N,N,N,N,N]) (by kernel_rfl) (fun _ _ _ _ h=>h) R (fun hg332=>(Jc (jh R hg332) 0 R at7 0 R vz (hq46 hg332) sub_ref13_Border_0 ty_9)) ?_
   refine AtH.vk [0,1,2] hgd 10 R R R (ju R) R R (D':=#[Y,Y,Y,Y,Y,Y,Y,Y,Y,Y,Y,N,N,N,N,N,N,N,N,N,N,N,N,N,N,N,N,N,N,N,N,N,N,N]) (by kernel_rfl) (fun _ _ _ _ h=>h) R (fun hg333=>(does_aidx_box (ja R) (ji _ _) ia_50_0)) ?_
   refine AtH.vk [0,1,2] hgd 11 R R R (ju R) R R (D':=#[Y,Y,Y,Y,Y,Y,Y,Y,Y,Y,Y,Y,N,N,N,N,N,N,N,N,N,N,N,N,N,N,N,N,N,N,N,N,N,N]) (by kernel_rfl) (fun _ _ _ _ h=>h) R (fun hg334=>(jc (jh R hg334) 2 R sub_a50_0 ty_9)) ?_
   refine AtH.vk [0,1,2] hgd 12 R R R (ju R) R R (D':=#[Y,Y,Y,Y,Y,Y,Y,Y,Y,Y,Y,Y,Y,N,N,N,N,N,N,N,N,N,N,N,N,N,N,N,N,N,N,N,N,N]) (by kernel_rfl) (fun _ _ _ _ h=>h) R (fun hg335=>(jk (jh R hg335) (jh R hg335) bin_slss)) ?_
   refine AtH.vk [0,1,2] hgd 13 R R R (ju R) R R (D':=#[Y,Y,Y,Y,Y,Y,Y,Y,Y,Y,Y,Y,Y,Y,N,N,N,N,N,N,N,N,N,N,N,N,N,N,N,N,N,N,N,N]) (by kernel_rfl) (fun _ _ _ _ h=>h) R (fun hg336=>(jb (x:=(.tv kBool (sLt ((rd vz l1 at7).A) s1.1))) (jh R hg336))) ?_
   refine AtH.vk [0,1,2] hgd 14 R R R (sees_wf R) R R (D':=#[Y,Y,Y,Y,Y,Y,Y,Y,Y,Y,Y,Y,Y,Y,Y,N,N,N,N,N,N,N,N,N,N,N,N,N,N,N,N,N,N,N]) (by kernel_rfl) (fun _ _ _ _ h=>h) R (fun hg337=>(jb (x:=(.eq v1)) (ja R))) ?_
   refine AtH.vk [0,1,2] hgd 15 R R R (sees_wf R) R R (D':=#[Y,Y,Y,Y,Y,Y,Y,Y,Y,Y,Y,Y,Y,Y,Y,Y,N,N,N,N,N,N,N,N,N,N,N,N,N,N,N,N,N,N]) (by kernel_rfl) (fun _ _ _ _ h=>h) R (fun hg338=>(jb (x:=(.tv (kInt .i64) at7)) (ja R))) ?_
   refine AtH.vk [0,1,2] hgd 16 R R R (sees_wf R) R R (D':=#[Y,Y,Y,Y,Y,Y,Y,Y,Y,Y,Y,Y,Y,Y,Y,Y,Y,N,N,N,N,N,N,N,N,N,N,N,N,N,N,N,N,N]) (by kernel_rfl) (fun _ _ _ _ h=>h) R (fun hg339=>(does_idx_row (jh R hg339) 0 R (jh R hg339) Tryz.underlying45 ty_49 (hq47 hg339))) ?_
   refine AtH.vk [0,1,2] hgd 17 R R R (sees_wf R) R R (D':=#[Y,Y,Y,Y,Y,Y,Y,Y,Y,Y,Y,Y,Y,Y,Y,Y,Y,Y,N,N,N,N,N,N,N,N,N,N,N,N,N,N,N,N]) (by kernel_rfl) (fun _ _ _ _ h=>h) R (fun hg340=>(does_field_elem (jh R hg340) fa_49_0)) ?_
   refine AtH.vk [0,1,2] hgd 18 R R R (sees_wf R) R R (D':=#[Y,Y,Y,Y,Y,Y,Y,Y,Y,Y,Y,Y,Y,Y,Y,Y,Y,Y,Y,N,N,N,N,N,N,N,N,N,N,N,N,N,N,N]) (by kernel_rfl) (fun _ _ _ _ h=>h) R (fun hg341=>(Jc (jh R hg341) 0 R at7 0 R vz (hq47 hg341) sub_ref13_Border_0 ty_9)) ?_
   refine AtH.vk [0,1,2] hgd 19 R R R (sees_wf R) R R (D':=#[Y,Y,Y,Y,Y,Y,Y,Y,Y,Y,Y,Y,Y,Y,Y,Y,Y,Y,Y,Y,N,N,N,N,N,N,N,N,N,N,N,N,N,N]) (by kernel_rfl) (fun _ _ _ _ h=>h) R (fun hg342=>(does_aidx_box (ja R) (ji _ _) ia_50_0)) ?_
   refine AtH.vk [0,1,2] hgd 20 R R R (sees_wf R) R R (D':=#[Y,Y,Y,Y,Y,Y,Y,Y,Y,Y,Y,Y,Y,Y,Y,Y,Y,Y,Y,Y,Y,N,N,N,N,N,N,N,N,N,N,N,N,N]) (by kernel_rfl) (fun _ _ _ _ h=>h) R (fun hg343=>(jc (jh R hg343) 2 R sub_a50_0 ty_9)) ?_
   refine AtH.vk [0,1,2] hgd 21 R R R (sees_wf R) R R (D':=#[Y,Y,Y,Y,Y,Y,Y,Y,Y,Y,Y,Y,Y,Y,Y,Y,Y,Y,Y,Y,Y,Y,N,N,N,N,N,N,N,N,N,N,N,N]) (by kernel_rfl) (fun _ _ _ _ h=>h) R (fun hg344=>(jk (jh R hg344) (jh R hg344) bin_seql)) ?_
   refine AtH.vk [0,1,2] hgd 22 R R R (sees_wf R) R R (D':=#[Y,Y,Y,Y,Y,Y,Y,Y,Y,Y,Y,Y,Y,Y,Y,Y,Y,Y,Y,Y,Y,Y,Y,N,N,N,N,N,N,N,N,N,N,N]) (by kernel_rfl) (fun _ _ _ _ h=>h) R (fun hg345=>(jb (x:=(.tv kBool (sEq ((rd vz l1 at7).A) s1.1))) (jh R hg345))) ?_
   refine AtH.vk [0,1,2] hgd 23 R R R (jt R) R R (D':=#[Y,Y,Y,Y,Y,Y,Y,Y,Y,Y,Y,Y,Y,Y,Y,Y,Y,Y,Y,Y,Y,Y,Y,Y,N,N,N,N,N,N,N,N,N,N]) (by kernel_rfl) (fun _ _ _ _ h=>h) R (fun hg346=>(jb (x:=(.eq v1)) (ja R))) ?_
   refine AtH.vk [0,1,2] hgd 24 R R R (jt R) R R (D':=#[Y,Y,Y,Y,Y,Y,Y,Y,Y,Y,Y,Y,Y,Y,Y,Y,Y,Y,Y,Y,Y,Y,Y,Y,Y,N,N,N,N,N,N,N,N,N]) (by kernel_rfl) (fun _ _ _ _ h=>h) R (fun hg347=>(jb (x:=(.tv (kInt .i64) at7)) (ja R))) ?_
   refine AtH.vk [0,1,2] hgd 25 R R R (jt R) R R (D':=#[Y,Y,Y,Y,Y,Y,Y,Y,Y,Y,Y,Y,Y,Y,Y,Y,Y,Y,Y,Y,Y,Y,Y,Y,Y,Y,N,N,N,N,N,N,N,N]) (by kernel_rfl) (fun _ _ _ _ h=>h) R (fun hg348=>(does_idx_row (jh R hg348) 0 R (jh R hg348) Tryz.underlying45 ty_49 (hq48 hg348))) ?_
   refine AtH.vk [0,1,2] hgd 26 R R R (jt R) R R (D':=#[Y,Y,Y,Y,Y,Y,Y,Y,Y,Y,Y,Y,Y,Y,Y,Y,Y,Y,Y,Y,Y,Y,Y,Y,Y,Y,Y,N,N,N,N,N,N,N]) (by kernel_rfl) (fun _ _ _ _ h=>h) R (fun hg349=>(does_field_elem (jh R hg349) fa_49_1)) ?_
   refine AtH.vk [0,1,2] hgd 27 R R R (jt R) R R (D':=#[Y,Y,Y,Y,Y,Y,Y,Y,Y,Y,Y,Y,Y,Y,Y,Y,Y,Y,Y,Y,Y,Y,Y,Y,Y,Y,Y,Y,N,N,N,N,N,N]) (by kernel_rfl) (fun _ _ _ _ h=>h) R (fun hg350=>(Jc (jh R hg350) 0 R at7 1 R vz (hq48 hg350) sub_ref13_Border_1 ty_9)) ?_
   refine AtH.vk [0,1,2] hgd 28 R R R (jt R) R R (D':=#[Y,Y,Y,Y,Y,Y,Y,Y,Y,Y,Y,Y,Y,Y,Y,Y,Y,Y,Y,Y,Y,Y,Y,Y,Y,Y,Y,Y,Y,N,N,N,N,N]) (by kernel_rfl) (fun _ _ _ _ h=>h) R (fun hg351=>(does_aidx_box (ja R) (ji _ _) ia_50_1)) ?_
   refine AtH.vk [0,1,2] hgd 29 R R R (jt R) R R (D':=#[Y,Y,Y,Y,Y,Y,Y,Y,Y,Y,Y,Y,Y,Y,Y,Y,Y,Y,Y,Y,Y,Y,Y,Y,Y,Y,Y,Y,Y,Y,N,N,N,N]) (by kernel_rfl) (fun _ _ _ _ h=>h) R (fun hg352=>(jc (jh R hg352) 2 R sub_a50_1 ty_9)) ?_
   refine AtH.vk [0,1,2] hgd 30 R R R (jt R) R R (D':=#[Y,Y,Y,Y,Y,Y,Y,Y,Y,Y,Y,Y,Y,Y,Y,Y,Y,Y,Y,Y,Y,Y,Y,Y,Y,Y,Y,Y,Y,Y,Y,N,N,N]) (by kernel_rfl) (fun _ _ _ _ h=>h) R (fun hg353=>(jk (jh R hg353) (jh R hg353) bin_slss)) ?_
   refine AtH.vk [0,1,2] hgd 31 R R R (sees_wf R) R R (D':=#[Y,Y,Y,Y,Y,Y,Y,Y,Y,Y,Y,Y,Y,Y,Y,Y,Y,Y,Y,Y,Y,Y,Y,Y,Y,Y,Y,Y,Y,Y,Y,Y,N,N]) (by kernel_rfl) (fun _ _ _ _ h=>h) R (fun hg354=>(jm (jh R hg354) (ja R) (jl _) (pick_andG (and_of hg354)))) ?_
   refine AtH.vk [0,1,2] hgd 32 R R R (ju R) R R (D':=#[Y,Y,Y,Y,Y,Y,Y,Y,Y,Y,Y,Y,Y,Y,Y,Y,Y,Y,Y,Y,Y,Y,Y,Y,Y,Y,Y,Y,Y,Y,Y,Y,Y,N]) (by kernel_rfl) (fun _ _ _ _ h=>h) R (fun hg355=>(jm (jh R hg355) (jl _) (ja R) (pick_orG (andn_of hg355)))) ?_
   refine AtH.take [0,1,2] hgd 33 R R R R (D':=#[Y,Y,Y,Y,Y,Y,Y,Y,Y,Y,Y,Y,Y,Y,Y,Y,Y,Y,Y,Y,Y,Y,Y,Y,Y,Y,Y,Y,Y,Y,Y,Y,Y,Y]) (by kernel_rfl) (fun _ _ _ _ h=>h) R (jm (ja R) (ja R) (jl _) ve) ?_
   refine AtH.done (by kernel_rfl) ?_
   refine At.vh ?_
   refine At.cond (ja R) (fun hb8=>?_) (fun hb8=>?_)
   ·replace hF:=W.ite_t hb8 hF
    refine At.skip (At.vh (At.block (At.region (At.d R R R R (jb (x:=(.tv (kInt .i64) at7)) (ja R)) ?_))))
    refine At.d R R R R (jk (ja R) (ji _ _) vc) ?_
    refine At.d R R R R (jd (x:=(.tv (kInt .i64) (w64 (at7+(1:Int))))) (ja R)) ?_
    refine At.done ?_
    refine At.n ?_
    refine At.vh ?_
    refine At.w [0,1,2] R [(0,(.eq v1)),(3,(.tv kStr id1)),(5,(.eq (.pointer (some ⟨g1,0,none⟩)))),(6,(.eq (.pointer (some ⟨g2,0,none⟩)))),(9,(.tv (kInt .i64) (w64 (at7+(1:Int)))))] ⟨R,R,R,R,R,trivial⟩ (At.r ⟨(w64 (at7+(1:Int))),hF,R,R⟩)
   ·replace hF:=W.ite_f hb8 hF
    refine At.exit ?_
    refine At.x (At.x ?_)
    refine At.h ?_
    refine At.vh ?_
    refine At.w [0,1,2] R [(0,(.eq v1)),(3,(.tv kStr id1)),(5,(.eq (.pointer (some ⟨g1,0,none⟩)))),(6,(.eq (.pointer (some ⟨g2,0,none⟩)))),(9,(.tv (kInt .i64) at7))] ⟨R,R,R,R,R,trivial⟩ (At.r ⟨at7,hF,R,R⟩)
 ·rintro _ _ ⟨at4,hF,rfl,rfl⟩
  unfold ref13_put__o.c1 at hF
  refine At.cut (fun rs L=>∃ (x2:(List ref13_Border)) (v21:Value),ref13_put__o.c2 id1 at4 x2 Q∧rs=[.row v21 49 kref13_Border x2]∧L=mkL [(0,(.eq v21)),(3,(.tv kStr id1)),(9,(.tv (kInt .i64) at4))]) ?_ ?_
  ·refine At.seq ?_
   refine At.draw mixed [0,1,2] R [[],[],[]] (fun φ w hgd=>?_)
   obtain ⟨hq28,hF⟩:=hF
   obtain ⟨hq29,hF⟩:=hF
   refine AtH.take [0,1,2] hgd 0 R R R R (D':=#[Y,N,N,N,N,N,N,N,N,N,N,N,N,N,N,N,N,N,N,N,N,N,N,N]) (by kernel_rfl) (fun _ _ _ _ h=>h) R (jb (x:=(.tv (kInt .i64) at4)) (ja R)) ?_
   refine AtH.take [0,1,2] hgd 1 R R R R (D':=#[Y,Y,N,N,N,N,N,N,N,N,N,N,N,N,N,N,N,N,N,N,N,N,N,N]) (by kernel_rfl) (fun _ _ _ _ h=>h) R (jb (x:=(.eq v1)) (ja R)) ?_
   refine AtH.take [0,1,2] hgd 2 R R R R (D':=#[Y,Y,Y,N,N,N,N,N,N,N,N,N,N,N,N,N,N,N,N,N,N,N,N,N]) (by kernel_rfl) (fun _ _ _ _ h=>h) R (does_len_row (ja R) 0 R Tryz.underlying45) ?_
   refine AtH.take [0,1,2] hgd 3 R R R R (D':=#[Y,Y,Y,Y,N,N,N,N,N,N,N,N,N,N,N,N,N,N,N,N,N,N,N,N]) (by kernel_rfl) (fun _ _ _ _ h=>h) R (jk (ja R) (ja R) bin_eql) ?_
   refine AtH.take [0,1,2] hgd 4 R R R R (D':=#[Y,Y,Y,Y,Y,N,N,N,N,N,N,N,N,N,N,N,N,N,N,N,N,N,N,N]) (by kernel_rfl) (fun _ _ _ _ h=>h) R (jb (x:=(.tv kBool (at4==(l1.length:Int)))) (ja R)) ?_
   refine AtH.vk [0,1,2] hgd 5 R R R (jv R) R R (D':=#[Y,Y,Y,Y,Y,Y,N,N,N,N,N,N,N,N,N,N,N,N,N,N,N,N,N,N]) (by kernel_rfl) (fun _ _ _ _ h=>h) R (fun hg172=>(jb (x:=(.eq v1)) (ja R))) ?_
   refine AtH.vk [0,1,2] hgd 6 R R R (jv R) R R (D':=#[Y,Y,Y,Y,Y,Y,Y,N,N,N,N,N,N,N,N,N,N,N,N,N,N,N,N,N]) (by kernel_rfl) (fun _ _ _ _ h=>h) R (fun hg173=>(jb (x:=(.tv (kInt .i64) at4)) (ja R))) ?_
   refine AtH.vk [0,1,2] hgd 7 R R R (jv R) R R (D':=#[Y,Y,Y,Y,Y,Y,Y,Y,N,N,N,N,N,N,N,N,N,N,N,N,N,N,N,N]) (by kernel_rfl) (fun _ _ _ _ h=>h) R (fun hg174=>(does_idx_row (jh R hg174) 0 R (jh R hg174) Tryz.underlying45 ty_49 (hq28 hg174))) ?_
   refine AtH.vk [0,1,2] hgd 8 R R R (jv R) R R (D':=#[Y,Y,Y,Y,Y,Y,Y,Y,Y,N,N,N,N,N,N,N,N,N,N,N,N,N,N,N]) (by kernel_rfl) (fun _ _ _ _ h=>h) R (fun hg175=>(does_field_elem (jh R hg175) fa_49_0)) ?_
   refine AtH.vk [0,1,2] hgd 9 R R R (jv R) R R (D':=#[Y,Y,Y,Y,Y,Y,Y,Y,Y,Y,N,N,N,N,N,N,N,N,N,N,N,N,N,N]) (by kernel_rfl) (fun _ _ _ _ h=>h) R (fun hg176=>(Jc (jh R hg176) 0 R at4 0 R vz (hq28 hg176) sub_ref13_Border_0 ty_9)) ?_
   refine AtH.vk [0,1,2] hgd 10 R R R (jv R) R R (D':=#[Y,Y,Y,Y,Y,Y,Y,Y,Y,Y,Y,N,N,N,N,N,N,N,N,N,N,N,N,N]) (by kernel_rfl) (fun _ _ _ _ h=>h) R (fun hg177=>(does_aidx_box (ja R) (ji _ _) ia_50_0)) ?_
   refine AtH.vk [0,1,2] hgd 11 R R R (jv R) R R (D':=#[Y,Y,Y,Y,Y,Y,Y,Y,Y,Y,Y,Y,N,N,N,N,N,N,N,N,N,N,N,N]) (by kernel_rfl) (fun _ _ _ _ h=>h) R (fun hg178=>(jc (jh R hg178) 2 R sub_a50_0 ty_9)) ?_
   refine AtH.vk [0,1,2] hgd 12 R R R (jv R) R R (D':=#[Y,Y,Y,Y,Y,Y,Y,Y,Y,Y,Y,Y,Y,N,N,N,N,N,N,N,N,N,N,N]) (by kernel_rfl) (fun _ _ _ _ h=>h) R (fun hg179=>(jk (jh R hg179) (jh R hg179) bin_sneq)) ?_
   refine AtH.take [0,1,2] hgd 13 R R R R (D':=#[Y,Y,Y,Y,Y,Y,Y,Y,Y,Y,Y,Y,Y,Y,N,N,N,N,N,N,N,N,N,N]) (by kernel_rfl) (fun _ _ _ _ h=>h) R (jm (ja R) (jl _) (ja R) pick_or) ?_
   refine AtH.take [0,1,2] hgd 14 R R R R (D':=#[Y,Y,Y,Y,Y,Y,Y,Y,Y,Y,Y,Y,Y,Y,Y,N,N,N,N,N,N,N,N,N]) (by kernel_rfl) (fun _ _ _ _ h=>h) R (jb (x:=(.tv kBool ((at4==(l1.length:Int))||(!(sEq ((rd vz l1 at4).A) s1.1))))) (ja R)) ?_
   refine AtH.vk [0,1,2] hgd 15 R R R (jv R) R R (D':=#[Y,Y,Y,Y,Y,Y,Y,Y,Y,Y,Y,Y,Y,Y,Y,Y,N,N,N,N,N,N,N,N]) (by kernel_rfl) (fun _ _ _ _ h=>h) R (fun hg180=>(jb (x:=(.eq v1)) (ja R))) ?_
   refine AtH.vk [0,1,2] hgd 16 R R R (jv R) R R (D':=#[Y,Y,Y,Y,Y,Y,Y,Y,Y,Y,Y,Y,Y,Y,Y,Y,Y,N,N,N,N,N,N,N]) (by kernel_rfl) (fun _ _ _ _ h=>h) R (fun hg181=>(jb (x:=(.tv (kInt .i64) at4)) (ja R))) ?_
   refine AtH.vk [0,1,2] hgd 17 R R R (jv R) R R (D':=#[Y,Y,Y,Y,Y,Y,Y,Y,Y,Y,Y,Y,Y,Y,Y,Y,Y,Y,N,N,N,N,N,N]) (by kernel_rfl) (fun _ _ _ _ h=>h) R (fun hg182=>(does_idx_row (jh R hg182) 0 R (jh R hg182) Tryz.underlying45 ty_49 (hq29 hg182))) ?_
   refine AtH.vk [0,1,2] hgd 18 R R R (jv R) R R (D':=#[Y,Y,Y,Y,Y,Y,Y,Y,Y,Y,Y,Y,Y,Y,Y,Y,Y,Y,Y,N,N,N,N,N]) (by kernel_rfl) (fun _ _ _ _ h=>h) R (fun hg183=>(does_field_elem (jh R hg183) fa_49_1)) ?_
   refine AtH.vk [0,1,2] hgd 19 R R R (jv R) R R (D':=#[Y,Y,Y,Y,Y,Y,Y,Y,Y,Y,Y,Y,Y,Y,Y,Y,Y,Y,Y,Y,N,N,N,N]) (by kernel_rfl) (fun _ _ _ _ h=>h) R (fun hg184=>(Jc (jh R hg184) 0 R at4 1 R vz (hq29 hg184) sub_ref13_Border_1 ty_9)) ?_
   refine AtH.vk [0,1,2] hgd 20 R R R (jv R) R R (D':=#[Y,Y,Y,Y,Y,Y,Y,Y,Y,Y,Y,Y,Y,Y,Y,Y,Y,Y,Y,Y,Y,N,N,N]) (by kernel_rfl) (fun _ _ _ _ h=>h) R (fun hg185=>(does_aidx_box (ja R) (ji _ _) ia_50_1)) ?_
   refine AtH.vk [0,1,2] hgd 21 R R R (jv R) R R (D':=#[Y,Y,Y,Y,Y,Y,Y,Y,Y,Y,Y,Y,Y,Y,Y,Y,Y,Y,Y,Y,Y,Y,N,N]) (by kernel_rfl) (fun _ _ _ _ h=>h) R (fun hg186=>(jc (jh R hg186) 2 R sub_a50_1 ty_9)) ?_
   refine AtH.vk [0,1,2] hgd 22 R R R (jv R) R R (D':=#[Y,Y,Y,Y,Y,Y,Y,Y,Y,Y,Y,Y,Y,Y,Y,Y,Y,Y,Y,Y,Y,Y,Y,N]) (by kernel_rfl) (fun _ _ _ _ h=>h) R (fun hg187=>(jk (jh R hg187) (jh R hg187) bin_sneq)) ?_
   refine AtH.take [0,1,2] hgd 23 R R R R (D':=#[Y,Y,Y,Y,Y,Y,Y,Y,Y,Y,Y,Y,Y,Y,Y,Y,Y,Y,Y,Y,Y,Y,Y,Y]) (by kernel_rfl) (fun _ _ _ _ h=>h) R (jm (ja R) (jl _) (ja R) pick_or) ?_
   refine AtH.done (by kernel_rfl) ?_
   refine At.vh ?_
   refine At.cond (ja R) (fun hb5=>?_) (fun hb5=>?_)
   ·replace hF:=W.ite_t hb5 hF
    refine At.cut (fun rs L=>∃ (x3:ref13_Border) (g12:Nat),ref13_put__o.c3 l1 at4 (ref13_put__o.c2 id1 at4) x3 Q∧rs=[.row v1 49 kref13_Border l1,.box g12 49 kref13_Border x3]∧L=mkL [(0,(.eq v1)),(3,(.tv kStr id1)),(9,(.tv (kInt .i64) at4)),(10,(.eq (.pointer (some ⟨g12,0,none⟩))))]) ?_ ?_
    ·refine At.draw mixed [0,1,2] R [[],[],[]] (fun φ w hgd=>?_)
     replace hF:=W.vm hF
     refine AtH.take [0,1,2] hgd 0 R R R R (D':=#[Y,N,N,N,N,N,N,N,N,N,N,N,N,N,N,N,N,N,N,N,N,N,N,N,N]) (by kernel_rfl) (fun _ _ _ _ h=>h) R (does_aidx_box (ja R) (ji _ _) ia_50_0) ?_
     refine AtH.take [0,1,2] hgd 1 R R R R (D':=#[Y,Y,N,N,N,N,N,N,N,N,N,N,N,N,N,N,N,N,N,N,N,N,N,N,N]) (by kernel_rfl) (fun _ _ _ _ h=>h) R (jc (ja R) 2 R sub_a50_0 ty_9) ?_
     refine AtH.take [0,1,2] hgd 2 R R R R (D':=#[Y,Y,Y,N,N,N,N,N,N,N,N,N,N,N,N,N,N,N,N,N,N,N,N,N,N]) (by kernel_rfl) (fun _ _ _ _ h=>h) R (does_aidx_box (ja R) (ji _ _) ia_50_1) ?_
     refine AtH.take [0,1,2] hgd 3 R R R R (D':=#[Y,Y,Y,Y,N,N,N,N,N,N,N,N,N,N,N,N,N,N,N,N,N,N,N,N,N]) (by kernel_rfl) (fun _ _ _ _ h=>h) R (jc (ja R) 2 R sub_a50_1 ty_9) ?_
     refine AtH.take [0,1,2] hgd 4 R R R R (D':=#[Y,Y,Y,Y,Y,N,N,N,N,N,N,N,N,N,N,N,N,N,N,N,N,N,N,N,N]) (by kernel_rfl) (fun _ _ _ _ h=>h) R (je (ja R) fa_24_0) ?_
     refine AtH.take [0,1,2] hgd 5 R R R R (D':=#[Y,Y,Y,Y,Y,Y,N,N,N,N,N,N,N,N,N,N,N,N,N,N,N,N,N,N,N]) (by kernel_rfl) (fun _ _ _ _ h=>h) R (jc (ja R) 1 R sub_Map_0 ty_22) ?_
     refine AtH.take [0,1,2] hgd 6 R R R R (D':=#[Y,Y,Y,Y,Y,Y,Y,N,N,N,N,N,N,N,N,N,N,N,N,N,N,N,N,N,N]) (by kernel_rfl) (fun _ _ _ _ h=>h) R (jc (ja R) 1 R (Sub.self kMap) ty_24) ?_
     refine AtH.take [0,1,2] hgd 7 R R R R (D':=#[Y,Y,Y,Y,Y,Y,Y,Y,N,N,N,N,N,N,N,N,N,N,N,N,N,N,N,N,N]) (by kernel_rfl) (fun _ _ _ _ h=>h) R (does_aidx_box (ja R) (ji _ _) ia_50_0) ?_
     refine AtH.take [0,1,2] hgd 8 R R R R (D':=#[Y,Y,Y,Y,Y,Y,Y,Y,Y,N,N,N,N,N,N,N,N,N,N,N,N,N,N,N,N]) (by kernel_rfl) (fun _ _ _ _ h=>h) R (jc (ja R) 2 R sub_a50_0 ty_9) ?_
     refine AtH.take [0,1,2] hgd 13 R R R R (D':=#[Y,Y,Y,Y,Y,Y,Y,Y,Y,N,N,N,N,Y,N,N,N,N,N,N,N,N,N,N,N]) (by kernel_rfl) (fun _ _ _ _ h=>h) R (je (ja R) fa_24_0) ?_
     refine AtH.take [0,1,2] hgd 14 R R R R (D':=#[Y,Y,Y,Y,Y,Y,Y,Y,Y,N,N,N,N,Y,Y,N,N,N,N,N,N,N,N,N,N]) (by kernel_rfl) (fun _ _ _ _ h=>h) R (jc (ja R) 1 R sub_Map_0 ty_22) ?_
     refine AtH.take [0,1,2] hgd 15 R R R R (D':=#[Y,Y,Y,Y,Y,Y,Y,Y,Y,N,N,N,N,Y,Y,Y,N,N,N,N,N,N,N,N,N]) (by kernel_rfl) (fun _ _ _ _ h=>h) R (jc (ja R) 1 R (Sub.self kMap) ty_24) ?_
     refine AtH.take [0,1,2] hgd 16 R R R R (D':=#[Y,Y,Y,Y,Y,Y,Y,Y,Y,N,N,N,N,Y,Y,Y,Y,N,N,N,N,N,N,N,N]) (by kernel_rfl) (fun _ _ _ _ h=>h) R (does_aidx_box (ja R) (ji _ _) ia_50_1) ?_
     refine AtH.take [0,1,2] hgd 17 R R R R (D':=#[Y,Y,Y,Y,Y,Y,Y,Y,Y,N,N,N,N,Y,Y,Y,Y,Y,N,N,N,N,N,N,N]) (by kernel_rfl) (fun _ _ _ _ h=>h) R (jc (ja R) 2 R sub_a50_1 ty_9) ?_
     refine AtH.all2 9 23 (by kernel_rfl) ?_ ?_
     ·refine AtH.f [(0,0),(1,1),(2,2)] R R R R R R (jn R R jp (jq R en_87 (jf (ja R) (jf (ja R) jg))) (ref13_Find.ok hF) (by rintro _ _ ⟨r,_,rfl,_⟩;exact flat_int)) (D':=#[Y,Y,Y,Y,Y,Y,Y,Y,Y,Y,N,N,N,Y,Y,Y,Y,Y,N,N,N,N,N,N,N]) (by kernel_rfl) (by kernel_rfl) ?_
      rintro _ _ ⟨_,_,⟨r5,hF,rfl,rfl⟩,rfl,rfl⟩
      refine ⟨_,.inr ⟨R,flat_int⟩,?_⟩
      obtain ⟨hq38,hF⟩:=hF
      replace hF:=W.vm hF
      refine AtH.take [0,1,2] hgd 10 R R R R (D':=#[Y,Y,Y,Y,Y,Y,Y,Y,Y,Y,Y,N,N,Y,Y,Y,Y,Y,N,N,N,N,N,N,N]) (by kernel_rfl) (fun _ _ _ _ h=>h) R (vf zObject (ja R) (ja R) Tryz.underlying22 ty_59 hq38) ?_
      refine AtH.take [0,1,2] hgd 11 R R R R (D':=#[Y,Y,Y,Y,Y,Y,Y,Y,Y,Y,Y,Y,N,Y,Y,Y,Y,Y,N,N,N,N,N,N,N]) (by kernel_rfl) (fun _ _ _ _ h=>h) R (Jd (K:=kObject) (ja R) fa_59_2 sub_Object_2) ?_
      refine AtH.take [0,1,2] hgd 12 R R R R (D':=#[Y,Y,Y,Y,Y,Y,Y,Y,Y,Y,Y,Y,Y,Y,Y,Y,Y,Y,N,N,N,N,N,N,N]) (by kernel_rfl) (fun _ _ _ _ h=>h) R (vq (K:=kPoint) (ja R) ty_37) ?_
      refine AtH.all2 18 23 (by kernel_rfl) ?_ ?_
      ·refine AtH.f [(0,0),(1,1),(2,2)] R R R R R R (jn R R jp (jq R en_87 (jf (ja R) (jf (ja R) jg))) (ref13_Find.ok hF) (by rintro _ _ ⟨r,_,rfl,_⟩;exact flat_int)) (D':=#[Y,Y,Y,Y,Y,Y,Y,Y,Y,Y,Y,Y,Y,Y,Y,Y,Y,Y,Y,N,N,N,N,N,N]) (by kernel_rfl) (by kernel_rfl) ?_
       rintro _ _ ⟨_,_,⟨r6,hF,rfl,rfl⟩,rfl,rfl⟩
       refine ⟨_,.inr ⟨R,flat_int⟩,?_⟩
       obtain ⟨hq39,hF⟩:=hF
       refine AtH.take [0,1,2] hgd 19 R R R R (D':=#[Y,Y,Y,Y,Y,Y,Y,Y,Y,Y,Y,Y,Y,Y,Y,Y,Y,Y,Y,Y,N,N,N,N,N]) (by kernel_rfl) (fun _ _ _ _ h=>h) R (vf zObject (ja R) (ja R) Tryz.underlying22 ty_59 hq39) ?_
       refine AtH.take [0,1,2] hgd 20 R R R R (D':=#[Y,Y,Y,Y,Y,Y,Y,Y,Y,Y,Y,Y,Y,Y,Y,Y,Y,Y,Y,Y,Y,N,N,N,N]) (by kernel_rfl) (fun _ _ _ _ h=>h) R (Jd (K:=kObject) (ja R) fa_59_2 sub_Object_2) ?_
       refine AtH.take [0,1,2] hgd 21 R R R R (D':=#[Y,Y,Y,Y,Y,Y,Y,Y,Y,Y,Y,Y,Y,Y,Y,Y,Y,Y,Y,Y,Y,Y,N,N,N]) (by kernel_rfl) (fun _ _ _ _ h=>h) R (vq (K:=kPoint) (ja R) ty_37) ?_
       refine AtH.take [0,1,2] hgd 22 R R R R (D':=#[Y,Y,Y,Y,Y,Y,Y,Y,Y,Y,Y,Y,Y,Y,Y,Y,Y,Y,Y,Y,Y,Y,Y,N,N]) (by kernel_rfl) (fun _ _ _ _ h=>h) R (jz (jr (ja R) (jr (ja R) (jr (ja R) (jr (ja R) parts_nil)))) zr_49 bd_49 R (fills_cons R sub_ref13_Border_0 (fills_cons R sub_ref13_Border_1 (fills_cons R sub_ref13_Border_2 (fills_cons R sub_ref13_Border_3 fills_nil))))) ?_
       refine AtH.all1 23 (by kernel_rfl) ?_
       refine AtH.f [(0,0),(1,1),(2,2)] R R R R R R (eff_alloc R R R tz_49) (D':=#[Y,Y,Y,Y,Y,Y,Y,Y,Y,Y,Y,Y,Y,Y,Y,Y,Y,Y,Y,Y,Y,Y,Y,Y,N]) (by kernel_rfl) (by kernel_rfl) ?_
       rintro _ _ ⟨g14,rfl,rfl⟩
       refine ⟨_,.inr ⟨R,flat_eq⟩,?_⟩
       refine AtH.all1 24 (by kernel_rfl) ?_
       refine AtH.eff0 [(0,1),(1,2),(2,3)] R R R R R (jx R R (ja R) 0 R (Sub.self kref13_Border) ty_49 (ja R)) (D':=#[Y,Y,Y,Y,Y,Y,Y,Y,Y,Y,Y,Y,Y,Y,Y,Y,Y,Y,Y,Y,Y,Y,Y,Y,Y]) (by kernel_rfl) (by kernel_rfl) ?_
       rintro _ _ ⟨rfl,rfl⟩
       refine AtH.done (by kernel_rfl) ?_
       refine At.vh ?_
       refine At.w [1,0] R [(0,(.eq v1)),(3,(.tv kStr id1)),(9,(.tv (kInt .i64) at4)),(10,(.eq (.pointer (some ⟨g14,0,none⟩))))] ⟨R,R,R,R,trivial⟩ (At.r ⟨(⟨s1.1,s1.2,(rd zObject m1.Objects r5).At,(rd zObject m1.Objects r6).At,([]:List BA)⟩:ref13_Border),g14,hF,R,R⟩)
      ·refine AtH.f [(0,0),(1,1),(2,2)] R R R R R R (eff_alloc R R R tz_49) (D':=#[Y,Y,Y,Y,Y,Y,Y,Y,Y,Y,Y,Y,Y,Y,Y,Y,Y,Y,N,N,N,N,N,Y,N]) (by kernel_rfl) (by kernel_rfl) ?_
       rintro _ _ ⟨g15,rfl,rfl⟩
       refine ⟨_,.inr ⟨R,flat_eq⟩,?_⟩
       refine AtH.all1 18 (by kernel_rfl) ?_
       refine AtH.f [(0,1),(1,2),(2,3)] R R R R R R (jn R R jp (jq R en_87 (jf (ja R) (jf (ja R) jg))) (ref13_Find.ok hF) (by rintro _ _ ⟨r,_,rfl,_⟩;exact flat_int)) (D':=#[Y,Y,Y,Y,Y,Y,Y,Y,Y,Y,Y,Y,Y,Y,Y,Y,Y,Y,Y,N,N,N,N,Y,N]) (by kernel_rfl) (by kernel_rfl) ?_
       rintro _ _ ⟨_,_,⟨r6,hF,rfl,rfl⟩,rfl,rfl⟩
       refine ⟨_,.inr ⟨R,flat_int⟩,?_⟩
       obtain ⟨hq39,hF⟩:=hF
       refine AtH.take [0,1,2] hgd 19 R R R R (D':=#[Y,Y,Y,Y,Y,Y,Y,Y,Y,Y,Y,Y,Y,Y,Y,Y,Y,Y,Y,Y,N,N,N,Y,N]) (by kernel_rfl) (fun _ _ _ _ h=>h) R (vf zObject (ja R) (ja R) Tryz.underlying22 ty_59 hq39) ?_
       refine AtH.take [0,1,2] hgd 20 R R R R (D':=#[Y,Y,Y,Y,Y,Y,Y,Y,Y,Y,Y,Y,Y,Y,Y,Y,Y,Y,Y,Y,Y,N,N,Y,N]) (by kernel_rfl) (fun _ _ _ _ h=>h) R (Jd (K:=kObject) (ja R) fa_59_2 sub_Object_2) ?_
       refine AtH.take [0,1,2] hgd 21 R R R R (D':=#[Y,Y,Y,Y,Y,Y,Y,Y,Y,Y,Y,Y,Y,Y,Y,Y,Y,Y,Y,Y,Y,Y,N,Y,N]) (by kernel_rfl) (fun _ _ _ _ h=>h) R (vq (K:=kPoint) (ja R) ty_37) ?_
       refine AtH.take [0,1,2] hgd 22 R R R R (D':=#[Y,Y,Y,Y,Y,Y,Y,Y,Y,Y,Y,Y,Y,Y,Y,Y,Y,Y,Y,Y,Y,Y,Y,Y,N]) (by kernel_rfl) (fun _ _ _ _ h=>h) R (jz (jr (ja R) (jr (ja R) (jr (ja R) (jr (ja R) parts_nil)))) zr_49 bd_49 R (fills_cons R sub_ref13_Border_0 (fills_cons R sub_ref13_Border_1 (fills_cons R sub_ref13_Border_2 (fills_cons R sub_ref13_Border_3 fills_nil))))) ?_
       refine AtH.all1 24 (by kernel_rfl) ?_
       refine AtH.eff0 [(0,1),(1,2),(2,3)] R R R R R (jx R R (ja R) 0 R (Sub.self kref13_Border) ty_49 (ja R)) (D':=#[Y,Y,Y,Y,Y,Y,Y,Y,Y,Y,Y,Y,Y,Y,Y,Y,Y,Y,Y,Y,Y,Y,Y,Y,Y]) (by kernel_rfl) (by kernel_rfl) ?_
       rintro _ _ ⟨rfl,rfl⟩
       refine AtH.done (by kernel_rfl) ?_
       refine At.vh ?_
       refine At.w [1,0] R [(0,(.eq v1)),(3,(.tv kStr id1)),(9,(.tv (kInt .i64) at4)),(10,(.eq (.pointer (some ⟨g15,0,none⟩))))] ⟨R,R,R,R,trivial⟩ (At.r ⟨(⟨s1.1,s1.2,(rd zObject m1.Objects r5).At,(rd zObject m1.Objects r6).At,([]:List BA)⟩:ref13_Border),g15,hF,R,R⟩)
     ·refine AtH.f [(0,0),(1,1),(2,2)] R R R R R R (eff_alloc R R R tz_49) (D':=#[Y,Y,Y,Y,Y,Y,Y,Y,Y,N,N,N,N,Y,Y,Y,Y,Y,N,N,N,N,N,Y,N]) (by kernel_rfl) (by kernel_rfl) ?_
      rintro _ _ ⟨g16,rfl,rfl⟩
      refine ⟨_,.inr ⟨R,flat_eq⟩,?_⟩
      refine AtH.all1 9 (by kernel_rfl) ?_
      refine AtH.f [(0,1),(1,2),(2,3)] R R R R R R (jn R R jp (jq R en_87 (jf (ja R) (jf (ja R) jg))) (ref13_Find.ok hF) (by rintro _ _ ⟨r,_,rfl,_⟩;exact flat_int)) (D':=#[Y,Y,Y,Y,Y,Y,Y,Y,Y,Y,N,N,N,Y,Y,Y,Y,Y,N,N,N,N,N,Y,N]) (by kernel_rfl) (by kernel_rfl) ?_
      rintro _ _ ⟨_,_,⟨r5,hF,rfl,rfl⟩,rfl,rfl⟩
      refine ⟨_,.inr ⟨R,flat_int⟩,?_⟩
      obtain ⟨hq38,hF⟩:=hF
      replace hF:=W.vm hF
      refine AtH.take [0,1,2] hgd 10 R R R R (D':=#[Y,Y,Y,Y,Y,Y,Y,Y,Y,Y,Y,N,N,Y,Y,Y,Y,Y,N,N,N,N,N,Y,N]) (by kernel_rfl) (fun _ _ _ _ h=>h) R (vf zObject (ja R) (ja R) Tryz.underlying22 ty_59 hq38) ?_
      refine AtH.take [0,1,2] hgd 11 R R R R (D':=#[Y,Y,Y,Y,Y,Y,Y,Y,Y,Y,Y,Y,N,Y,Y,Y,Y,Y,N,N,N,N,N,Y,N]) (by kernel_rfl) (fun _ _ _ _ h=>h) R (Jd (K:=kObject) (ja R) fa_59_2 sub_Object_2) ?_
      refine AtH.take [0,1,2] hgd 12 R R R R (D':=#[Y,Y,Y,Y,Y,Y,Y,Y,Y,Y,Y,Y,Y,Y,Y,Y,Y,Y,N,N,N,N,N,Y,N]) (by kernel_rfl) (fun _ _ _ _ h=>h) R (vq (K:=kPoint) (ja R) ty_37) ?_
      refine AtH.all1 18 (by kernel_rfl) ?_
      refine AtH.f [(0,1),(1,2),(2,3)] R R R R R R (jn R R jp (jq R en_87 (jf (ja R) (jf (ja R) jg))) (ref13_Find.ok hF) (by rintro _ _ ⟨r,_,rfl,_⟩;exact flat_int)) (D':=#[Y,Y,Y,Y,Y,Y,Y,Y,Y,Y,Y,Y,Y,Y,Y,Y,Y,Y,Y,N,N,N,N,Y,N]) (by kernel_rfl) (by kernel_rfl) ?_
      rintro _ _ ⟨_,_,⟨r6,hF,rfl,rfl⟩,rfl,rfl⟩
      refine ⟨_,.inr ⟨R,flat_int⟩,?_⟩
      obtain ⟨hq39,hF⟩:=hF
      refine AtH.take [0,1,2] hgd 19 R R R R (D':=#[Y,Y,Y,Y,Y,Y,Y,Y,Y,Y,Y,Y,Y,Y,Y,Y,Y,Y,Y,Y,N,N,N,Y,N]) (by kernel_rfl) (fun _ _ _ _ h=>h) R (vf zObject (ja R) (ja R) Tryz.underlying22 ty_59 hq39) ?_
      refine AtH.take [0,1,2] hgd 20 R R R R (D':=#[Y,Y,Y,Y,Y,Y,Y,Y,Y,Y,Y,Y,Y,Y,Y,Y,Y,Y,Y,Y,Y,N,N,Y,N]) (by kernel_rfl) (fun _ _ _ _ h=>h) R (Jd (K:=kObject) (ja R) fa_59_2 sub_Object_2) ?_
      refine AtH.take [0,1,2] hgd 21 R R R R (D':=#[Y,Y,Y,Y,Y,Y,Y,Y,Y,Y,Y,Y,Y,Y,Y,Y,Y,Y,Y,Y,Y,Y,N,Y,N]) (by kernel_rfl) (fun _ _ _ _ h=>h) R (vq (K:=kPoint) (ja R) ty_37) ?_
      refine AtH.take [0,1,2] hgd 22 R R R R (D':=#[Y,Y,Y,Y,Y,Y,Y,Y,Y,Y,Y,Y,Y,Y,Y,Y,Y,Y,Y,Y,Y,Y,Y,Y,N]) (by kernel_rfl) (fun _ _ _ _ h=>h) R (jz (jr (ja R) (jr (ja R) (jr (ja R) (jr (ja R) parts_nil)))) zr_49 bd_49 R (fills_cons R sub_ref13_Border_0 (fills_cons R sub_ref13_Border_1 (fills_cons R sub_ref13_Border_2 (fills_cons R sub_ref13_Border_3 fills_nil))))) ?_
      refine AtH.all1 24 (by kernel_rfl) ?_
      refine AtH.eff0 [(0,1),(1,2),(2,3)] R R R R R (jx R R (ja R) 0 R (Sub.self kref13_Border) ty_49 (ja R)) (D':=#[Y,Y,Y,Y,Y,Y,Y,Y,Y,Y,Y,Y,Y,Y,Y,Y,Y,Y,Y,Y,Y,Y,Y,Y,Y]) (by kernel_rfl) (by kernel_rfl) ?_
      rintro _ _ ⟨rfl,rfl⟩
      refine AtH.done (by kernel_rfl) ?_
      refine At.vh ?_
      refine At.w [1,0] R [(0,(.eq v1)),(3,(.tv kStr id1)),(9,(.tv (kInt .i64) at4)),(10,(.eq (.pointer (some ⟨g16,0,none⟩))))] ⟨R,R,R,R,trivial⟩ (At.r ⟨(⟨s1.1,s1.2,(rd zObject m1.Objects r5).At,(rd zObject m1.Objects r6).At,([]:List BA)⟩:ref13_Border),g16,hF,R,R⟩)
    ·rintro _ _ ⟨x3,g12,hF,rfl,rfl⟩
     unfold ref13_put__o.c3 at hF
     refine At.draw mixed [0,1] R [[],[]] (fun φ w hgd=>?_)
     obtain ⟨hq32,hF⟩:=hF
     obtain ⟨hq33,hF⟩:=hF
     obtain ⟨hq34,hF⟩:=hF
     obtain ⟨hq35,hF⟩:=hF
     obtain ⟨hq36,hF⟩:=hF
     obtain ⟨hq37,hF⟩:=hF
     refine AtH.take [0,1] hgd 1 R R R R (D':=#[N,Y,N,N,N,N,N,N,N,N,N,N,N]) (by kernel_rfl) (fun _ _ _ _ h=>h) R (jb (x:=(.eq v1)) (ja R)) ?_
     refine AtH.take [0,1] hgd 2 R R R R (D':=#[N,Y,Y,N,N,N,N,N,N,N,N,N,N]) (by kernel_rfl) (fun _ _ _ _ h=>h) R (jb (x:=(.tv (kInt .i64) at4)) (ja R)) ?_
     refine AtH.take [0,1] hgd 3 R R R R (D':=#[N,Y,Y,Y,N,N,N,N,N,N,N,N,N]) (by kernel_rfl) (fun _ _ _ _ h=>h) R (does_cutrow_h (ja R) 0 R (ja R) Tryz.underlying45 ty_49 hq32) ?_
     refine AtH.take [0,1] hgd 5 R R R R (D':=#[N,Y,Y,Y,N,Y,N,N,N,N,N,N,N]) (by kernel_rfl) (fun _ _ _ _ h=>h) R (jc (ja R) 1 R (Sub.self kref13_Border) ty_49) ?_
     refine AtH.take [0,1] hgd 8 R R R R (D':=#[N,Y,Y,Y,N,Y,N,N,Y,N,N,N,N]) (by kernel_rfl) (fun _ _ _ _ h=>h) R (jb (x:=(.eq v1)) (ja R)) ?_
     refine AtH.take [0,1] hgd 9 R R R R (D':=#[N,Y,Y,Y,N,Y,N,N,Y,Y,N,N,N]) (by kernel_rfl) (fun _ _ _ _ h=>h) R (jb (x:=(.tv (kInt .i64) at4)) (ja R)) ?_
     refine AtH.take [0,1] hgd 10 R R R R (D':=#[N,Y,Y,Y,N,Y,N,N,Y,Y,Y,N,N]) (by kernel_rfl) (fun _ _ _ _ h=>h) R (does_cutrow_l (ja R) 0 R (ja R) Tryz.underlying45 ty_49 hq32) ?_
     refine AtH.all2 0 6 (by kernel_rfl) ?_ ?_
     ·refine AtH.f [(0,0),(1,1)] R R R R R R (jy R R R (os:=[]) R sl_45 (xs:=([]:List ref13_Border)) jg R R) (D':=#[Y,Y,Y,Y,N,Y,N,N,Y,Y,Y,N,N]) (by kernel_rfl) (by kernel_rfl) ?_
      rintro _ _ ⟨v31,rfl,rfl⟩
      refine ⟨_,.inr ⟨R,flat_eq⟩,?_⟩
      refine AtH.all2 4 6 (by kernel_rfl) ?_ ?_
      ·refine AtH.f [(0,1),(1,2)] R R R R R R (eff_append_cut R R R 0 1 R R (ja R) (ja R) hq33 sl_45 hq34) (D':=#[Y,Y,Y,Y,Y,Y,N,N,Y,Y,Y,N,N]) (by kernel_rfl) (by kernel_rfl) ?_
       rintro _ _ ⟨v32,rfl,rfl⟩
       refine ⟨_,.inr ⟨R,flat_eq⟩,?_⟩
       refine AtH.all1 6 (by kernel_rfl) ?_
       refine AtH.f [(0,1),(1,2)] R R R R R R (jy R R R (os:=[.tmp 100]) R sl_45 (xs:=([x3]:List ref13_Border)) (jf (ja R) jg) R R) (D':=#[Y,Y,Y,Y,Y,Y,Y,N,Y,Y,Y,N,N]) (by kernel_rfl) (by kernel_rfl) ?_
       rintro _ _ ⟨v33,rfl,rfl⟩
       refine ⟨_,.inr ⟨R,flat_eq⟩,?_⟩
       refine AtH.all1 7 (by kernel_rfl) ?_
       refine AtH.f [(0,2),(1,3)] R R R R R R (eff_append_row R R R 1 0 R R (ja R) (ja R) sl_45 hq35) (D':=#[Y,Y,Y,Y,Y,Y,Y,Y,Y,Y,Y,N,N]) (by kernel_rfl) (by kernel_rfl) ?_
       rintro _ _ ⟨v34,rfl,rfl⟩
       refine ⟨_,.inr ⟨R,flat_eq⟩,?_⟩
       refine AtH.all1 11 (by kernel_rfl) ?_
       refine AtH.f [(0,2),(1,3)] R R R R R R (eff_append_cut R R R 1 2 R R (ja R) (ja R) hq36 sl_45 hq37) (D':=#[Y,Y,Y,Y,Y,Y,Y,Y,Y,Y,Y,Y,N]) (by kernel_rfl) (by kernel_rfl) ?_
       rintro _ _ ⟨v35,rfl,rfl⟩
       refine ⟨_,.inr ⟨R,flat_eq⟩,?_⟩
       refine AtH.take [0,1] hgd 12 R R R R (D':=#[Y,Y,Y,Y,Y,Y,Y,Y,Y,Y,Y,Y,Y]) (by kernel_rfl) (fun _ _ _ _ h=>h) R (jd (x:=(.eq v35)) (ja R)) ?_
       refine AtH.done (by kernel_rfl) ?_
       refine At.vh ?_
       refine At.w [1] R [(0,(.eq v35)),(3,(.tv kStr id1)),(9,(.tv (kInt .i64) at4))] ⟨R,R,R,trivial⟩ (At.r ⟨(((([]:List ref13_Border)++((l1.take at4.toNat).drop 0))++([x3]:List ref13_Border))++((l1.take l1.length).drop at4.toNat)),v35,hF,R,R⟩)
      ·refine AtH.f [(0,1),(1,2)] R R R R R R (jy R R R (os:=[.tmp 100]) R sl_45 (xs:=([x3]:List ref13_Border)) (jf (ja R) jg) R R) (D':=#[Y,Y,Y,Y,N,Y,Y,N,Y,Y,Y,N,N]) (by kernel_rfl) (by kernel_rfl) ?_
       rintro _ _ ⟨v36,rfl,rfl⟩
       refine ⟨_,.inr ⟨R,flat_eq⟩,?_⟩
       refine AtH.all1 4 (by kernel_rfl) ?_
       refine AtH.f [(0,2),(1,3)] R R R R R R (eff_append_cut R R R 1 2 R R (ja R) (ja R) hq33 sl_45 hq34) (D':=#[Y,Y,Y,Y,Y,Y,Y,N,Y,Y,Y,N,N]) (by kernel_rfl) (by kernel_rfl) ?_
       rintro _ _ ⟨v37,rfl,rfl⟩
       refine ⟨_,.inr ⟨R,flat_eq⟩,?_⟩
       refine AtH.all1 7 (by kernel_rfl) ?_
       refine AtH.f [(0,2),(1,3)] R R R R R R (eff_append_row R R R 1 0 R R (ja R) (ja R) sl_45 hq35) (D':=#[Y,Y,Y,Y,Y,Y,Y,Y,Y,Y,Y,N,N]) (by kernel_rfl) (by kernel_rfl) ?_
       rintro _ _ ⟨v38,rfl,rfl⟩
       refine ⟨_,.inr ⟨R,flat_eq⟩,?_⟩
       refine AtH.all1 11 (by kernel_rfl) ?_
       refine AtH.f [(0,2),(1,3)] R R R R R R (eff_append_cut R R R 1 2 R R (ja R) (ja R) hq36 sl_45 hq37) (D':=#[Y,Y,Y,Y,Y,Y,Y,Y,Y,Y,Y,Y,N]) (by kernel_rfl) (by kernel_rfl) ?_
       rintro _ _ ⟨v39,rfl,rfl⟩
       refine ⟨_,.inr ⟨R,flat_eq⟩,?_⟩
       refine AtH.take [0,1] hgd 12 R R R R (D':=#[Y,Y,Y,Y,Y,Y,Y,Y,Y,Y,Y,Y,Y]) (by kernel_rfl) (fun _ _ _ _ h=>h) R (jd (x:=(.eq v39)) (ja R)) ?_
       refine AtH.done (by kernel_rfl) ?_
       refine At.vh ?_
       refine At.w [1] R [(0,(.eq v39)),(3,(.tv kStr id1)),(9,(.tv (kInt .i64) at4))] ⟨R,R,R,trivial⟩ (At.r ⟨(((([]:List ref13_Border)++((l1.take at4.toNat).drop 0))++([x3]:List ref13_Border))++((l1.take l1.length).drop at4.toNat)),v39,hF,R,R⟩)
     ·refine AtH.f [(0,0),(1,1)] R R R R R R (jy R R R (os:=[.tmp 100]) R sl_45 (xs:=([x3]:List ref13_Border)) (jf (ja R) jg) R R) (D':=#[N,Y,Y,Y,N,Y,Y,N,Y,Y,Y,N,N]) (by kernel_rfl) (by kernel_rfl) ?_
      rintro _ _ ⟨v40,rfl,rfl⟩
      refine ⟨_,.inr ⟨R,flat_eq⟩,?_⟩
      refine AtH.all1 0 (by kernel_rfl) ?_
      refine AtH.f [(0,1),(1,2)] R R R R R R (jy R R R (os:=[]) R sl_45 (xs:=([]:List ref13_Border)) jg R R) (D':=#[Y,Y,Y,Y,N,Y,Y,N,Y,Y,Y,N,N]) (by kernel_rfl) (by kernel_rfl) ?_
      rintro _ _ ⟨v41,rfl,rfl⟩
      refine ⟨_,.inr ⟨R,flat_eq⟩,?_⟩
      refine AtH.all1 4 (by kernel_rfl) ?_
      refine AtH.f [(0,2),(1,3)] R R R R R R (eff_append_cut R R R 0 2 R R (ja R) (ja R) hq33 sl_45 hq34) (D':=#[Y,Y,Y,Y,Y,Y,Y,N,Y,Y,Y,N,N]) (by kernel_rfl) (by kernel_rfl) ?_
      rintro _ _ ⟨v42,rfl,rfl⟩
      refine ⟨_,.inr ⟨R,flat_eq⟩,?_⟩
      refine AtH.all1 7 (by kernel_rfl) ?_
      refine AtH.f [(0,2),(1,3)] R R R R R R (eff_append_row R R R 0 1 R R (ja R) (ja R) sl_45 hq35) (D':=#[Y,Y,Y,Y,Y,Y,Y,Y,Y,Y,Y,N,N]) (by kernel_rfl) (by kernel_rfl) ?_
      rintro _ _ ⟨v43,rfl,rfl⟩
      refine ⟨_,.inr ⟨R,flat_eq⟩,?_⟩
      refine AtH.all1 11 (by kernel_rfl) ?_
      refine AtH.f [(0,2),(1,3)] R R R R R R (eff_append_cut R R R 0 2 R R (ja R) (ja R) hq36 sl_45 hq37) (D':=#[Y,Y,Y,Y,Y,Y,Y,Y,Y,Y,Y,Y,N]) (by kernel_rfl) (by kernel_rfl) ?_
      rintro _ _ ⟨v44,rfl,rfl⟩
      refine ⟨_,.inr ⟨R,flat_eq⟩,?_⟩
      refine AtH.take [0,1] hgd 12 R R R R (D':=#[Y,Y,Y,Y,Y,Y,Y,Y,Y,Y,Y,Y,Y]) (by kernel_rfl) (fun _ _ _ _ h=>h) R (jd (x:=(.eq v44)) (ja R)) ?_
      refine AtH.done (by kernel_rfl) ?_
      refine At.vh ?_
      refine At.w [0] R [(0,(.eq v44)),(3,(.tv kStr id1)),(9,(.tv (kInt .i64) at4))] ⟨R,R,R,trivial⟩ (At.r ⟨(((([]:List ref13_Border)++((l1.take at4.toNat).drop 0))++([x3]:List ref13_Border))++((l1.take l1.length).drop at4.toNat)),v44,hF,R,R⟩)
   ·replace hF:=W.ite_f hb5 hF
    refine At.skip (At.vh ?_)
    refine At.w [0] R [(0,(.eq v1)),(3,(.tv kStr id1)),(9,(.tv (kInt .i64) at4))] ⟨R,R,R,trivial⟩ (At.r ⟨l1,v1,hF,R,R⟩)
  ·rintro _ _ ⟨x2,v21,hF,rfl,rfl⟩
   unfold ref13_put__o.c2 at hF
   refine At.seq (At.region (At.d R R R R (jb (x:=(.eq v21)) (ja R)) ?_))
   refine At.d R R R R (jb (x:=(.tv (kInt .i64) at4)) (ja R)) ?_
   obtain ⟨hq17,hF⟩:=hF
   refine At.d R R R R (does_idx_row (ja R) 0 R (ja R) Tryz.underlying45 ty_49 hq17) ?_
   refine At.d R R R R (does_field_elem (ja R) fa_49_4) ?_
   obtain ⟨hq18,hF⟩:=hF
   refine At.d R R R R (Jc (ja R) 0 R at4 6 R vz hq18 sub_ref13_Border_4 ty_41) ?_
   refine At.d R R R R (js (ja R) Tryz.underlying41) ?_
   refine At.d R R R R (jd (x:=(.tv (kInt .i64) (((rd vz x2 at4).Owners).length:Int))) (ja R)) ?_
   refine At.done (At.vh (At.seq (At.seq (At.region (At.d R R R R (jb (x:=(.tv (kInt .i64) (((rd vz x2 at4).Owners).length:Int))) (ja R)) ?_)))))
   refine At.d R R R R (jk (ja R) (ji _ _) bin_eql) ?_
   refine At.d R R R R (jb (x:=(.tv kBool ((((rd vz x2 at4).Owners).length:Int)==(0:Int)))) (ja R)) ?_
   refine At.vj R R R R (jv R) R (fun hg145=>(jb (x:=(.eq v21)) (ja R))) ?_
   refine At.vj R R R R (jv R) R (fun hg146=>(jb (x:=(.tv (kInt .i64) at4)) (ja R))) ?_
   obtain ⟨hq19,hF⟩:=hF
   refine At.vj R R R R (jv R) R (fun hg147=>(does_idx_row (jh R hg147) 0 R (jh R hg147) Tryz.underlying45 ty_49 (hq19 hg147))) ?_
   refine At.vj R R R R (jv R) R (fun hg148=>(does_field_elem (jh R hg148) fa_49_4)) ?_
   obtain ⟨hq20,hF⟩:=hF
   refine At.vj R R R R (jv R) R (fun hg149=>(Jc (jh R hg149) 0 R at4 6 R vz (hq20 hg149) sub_ref13_Border_4 ty_41)) ?_
   refine At.vj R R R R (jv R) R (fun hg150=>(jb (x:=(.tv (kInt .i64) (((rd vz x2 at4).Owners).length:Int))) (ja R))) ?_
   refine At.vj R R R R (jv R) R (fun hg151=>(jk (jh R hg151) (ji _ _) bin_sub)) ?_
   obtain ⟨hq21,hF⟩:=hF
   refine At.vj R R R R (jv R) R (fun hg152=>(vf (⟨#[]⟩:BA) (jh R hg152) (jh R hg152) Tryz.underlying41 ty_9 (hq21 hg152))) ?_
   refine At.vj R R R R (jv R) R (fun hg153=>(vq (K:=kStr) (jh R hg153) ty_9)) ?_
   refine At.vj R R R R (jv R) R (fun hg154=>(jb (x:=(.tv kStr id1)) (ja R))) ?_
   refine At.vj R R R R (jv R) R (fun hg155=>(jk (jh R hg155) (jh R hg155) bin_sneq)) ?_
   refine At.d R R R R (jm (ja R) (jl _) (ja R) pick_or) ?_
   refine At.done (At.vh ?_)
   refine At.cond (ja R) (fun hb4=>?_) (fun hb4=>?_)
   ·replace hF:=W.ite_t hb4 hF
    refine At.region (At.d R R R R (jb (x:=(.eq v21)) (ja R)) ?_)
    refine At.d R R R R (jb (x:=(.tv (kInt .i64) at4)) (ja R)) ?_
    refine At.f R (jy R R R (os:=[]) R sl_41 (xs:=([]:List BA)) jg R R) ?_
    rintro _ _ ⟨v22,rfl,rfl⟩
    refine At.d R R R R (jb (x:=(.eq v21)) (ja R)) ?_
    refine At.d R R R R (jb (x:=(.tv (kInt .i64) at4)) (ja R)) ?_
    obtain ⟨hq22,hF⟩:=hF
    refine At.d R R R R (does_idx_row (ja R) 1 R (ja R) Tryz.underlying45 ty_49 hq22) ?_
    refine At.d R R R R (does_field_elem (ja R) fa_49_4) ?_
    obtain ⟨hq23,hF⟩:=hF
    refine At.d R R R R (Jc (ja R) 1 R at4 6 R vz hq23 sub_ref13_Border_4 ty_41) ?_
    obtain ⟨hq24,hF⟩:=hF
    refine At.f R (eff_append_view R R R 0 R (ja R) (ja R) sl_41 hq24) ?_
    rintro _ _ ⟨v23,rfl,rfl⟩
    refine At.d R R R R (jb (x:=(.tv kStr id1)) (ja R)) ?_
    refine At.f R (jy R R R (os:=[.tmp 137]) R sl_41 (xs:=([id1]:List BA)) (jf (ja R) jg) R R) ?_
    rintro _ _ ⟨v24,rfl,rfl⟩
    obtain ⟨hq25,hF⟩:=hF
    refine At.f R (eff_append_row R R R 1 0 R R (ja R) (ja R) sl_41 hq25) ?_
    rintro _ _ ⟨v25,rfl,rfl⟩
    obtain ⟨hq26,hF⟩:=hF
    refine At.d R R R R (does_idx_row (ja R) 2 R (ja R) Tryz.underlying45 ty_49 hq26) ?_
    refine At.d R R R R (does_field_elem (ja R) fa_49_4) ?_
    refine At.freeze 1 139 R R ?_
    obtain ⟨hq27,hF⟩:=hF
    refine At.f R (eff_store_elem R R (ja R) 2 R at4 6 R vz hq27 sub_ref13_Border_4 ty_41 (ja R)) ?_
    rintro _ _ ⟨rfl,rfl⟩
    refine At.done (At.vh (At.seq (At.region (At.d R R R R (jb (x:=(.eq v21)) (ja R)) ?_))))
    refine At.d R R R R (jd (x:=(.eq v21)) (ja R)) ?_
    refine At.done (At.vh (At.ret ?_))
    exact At.j rfl (rv_tmp rfl) [2] rfl ⟨(x2.set at4.toNat ({ (rd vz x2 at4) with Owners:=((([]:List BA)++((rd vz x2 at4).Owners))++([id1]:List BA)) }:ref13_Border)),_,hF,rfl,rfl⟩
   ·replace hF:=W.ite_f hb4 hF
    refine At.skip (At.vh (At.seq (At.region (At.d R R R R (jb (x:=(.eq v21)) (ja R)) ?_))))
    refine At.d R R R R (jd (x:=(.eq v21)) (ja R)) ?_
    refine At.done (At.vh (At.ret ?_))
    exact At.j rfl (rv_tmp rfl) [0] rfl ⟨x2,_,hF,rfl,rfl⟩
def ref13_Borders.c1 (x12:(List ref13_Border)):W (List ref13_Border):=W.ret x12
def ref13_Borders.c2 (i6:Int) (A1:(List ref13_Border)→Int→W (List ref13_Border)) (x27:(List ref13_Border)):W (List ref13_Border):=A1 x27 (w64 (i6+(1:Int)))
def ref13_Borders.l2 (m1:Map) (i6:Int) (K2:(List ref13_Border)→W (List ref13_Border)) (r27:(List (BA×BA))) (A2:(List ref13_Border)→Int→W (List ref13_Border)) (x30:(List ref13_Border)) (k18:Int):W (List ref13_Border):=W.bind (W.ite (decide (k18<(r27.length:Int))) (ref13_Sound.F m1 (rd zObject m1.Objects i6)) (W.ret false)) (fun r32=>W.ite ((decide (k18<(r27.length:Int)))&&r32) (W.req (0≤k18∧k18<(r27.length:Int)) (W.bind (ref13_put__o.F x30 m1 (rd ((⟨#[]⟩:BA),(⟨#[]⟩:BA)) r27 k18) ((rd zObject m1.Objects i6).Id)) (fun r33=>A2 r33 (w64 (k18+(1:Int)))))) (K2 x30))
def ref13_Borders.l1 (m1:Map) (K1:(List ref13_Border)→W (List ref13_Border)) (A1:(List ref13_Border)→Int→W (List ref13_Border)) (x23:(List ref13_Border)) (i6:Int):W (List ref13_Border):=W.ite (decide (i6<(m1.Objects.length:Int))) (W.req (0≤i6∧i6<(m1.Objects.length:Int)) (W.bind (ref13_Sides.F (rd zObject m1.Objects i6)) (fun r27=>W.ex fun n=>W.iter2 (ref13_Borders.l2 m1 i6 (ref13_Borders.c2 i6 A1) r27) n x23 (0:Int)))) (K1 x23)
def ref13_Borders.F (m1:Map):W (List ref13_Border):=W.bind (ref13_Valid.F m1) (fun r1=>W.ite (!r1) (W.ret ([]:List ref13_Border)) (W.ex fun n=>W.iter2 (ref13_Borders.l1 m1 (ref13_Borders.c1)) n ([]:List ref13_Border) (0:Int)))
theorem ref13_Borders.ok {m1:Map} {Q:(List ref13_Border)→Prop} (hF:ref13_Borders.F m1 Q):Con Tryz.prog 22 [.tv kMap m1] [] (fun ta rs'=>∃ (r:(List ref13_Border)) (u0:Value),Q r∧ta=.eq u0∧rs'=[.row u0 49 kref13_Border r]):=by
 refine Con.i Tryz.func22 Tryz.ntmps22 R R (fun C=>?_)
 unfold ref13_Borders.F at hF
 refine At.seq (At.region (At.f R (jw R R R (ja R)) ?_))
 rintro _ _ ⟨g1,rfl,rfl⟩
 refine At.d R R R R (jd (x:=(.eq (.slice none 0 0))) (opd_eq _)) ?_
 refine At.done (At.vh (At.seq (At.region (At.d R R R R (jd (x:=(.eq (.slice none 0 0))) (opd_eq _)) ?_))))
 refine At.done (At.vh (At.seq (At.seq (At.region (At.d R R R R (jc (ja R) 0 R (Sub.self kMap) ty_24) ?_)))))
 replace hF:=W.vm hF
 refine At.f R (jn R R jp (jq R en_47 (jf (ja R) jg)) (ref13_Valid.ok hF) (by rintro _ _ ⟨r,_,rfl,_⟩;exact vl)) ?_
 rintro _ _ ⟨_,_,⟨r1,hF,rfl,rfl⟩,rfl,rfl⟩
 refine At.d R R R R (does_not (ja R)) ?_
 refine At.done (At.vh ?_)
 refine At.cond (ja R) (fun hb1=>?_) (fun hb1=>?_)
 ·replace hF:=W.ite_t hb1 hF
  refine At.seq (At.region (At.d R R R R (jd (x:=(.eq (.slice none 0 0))) (opd_eq _)) ?_))
  refine At.done (At.vh (At.ret (At.vi ?_)))
  refine At.nilrow 49 kref13_Border ?_
  exact At.j rfl (rv_tmp rfl) [0] rfl ⟨([]:List ref13_Border),_,hF,rfl,rfl⟩
 ·replace hF:=W.ite_f hb1 hF
  refine At.skip (At.vh ?_)
  refine At.cut (fun rs L=>∃ (x12:(List ref13_Border)) (v22:Value),ref13_Borders.c1 x12 Q∧rs=[.row v22 49 kref13_Border x12]∧L=mkL [(3,(.eq v22))]) ?_ ?_
  ·refine At.seq (At.region (At.d R R R R (jd (x:=(.tv (kInt .i64) (0:Int))) (ji _ _)) ?_))
   refine At.done (At.vh (At.block ?_))
   refine At.nilrow 49 kref13_Border ?_
   obtain ⟨n2,hF⟩:=hF
   refine At.w [1,0] R [(1,(.eq (.pointer (some ⟨g1,0,none⟩)))),(3,(.eq (.slice none 0 0))),(4,(.tv (kInt .i64) (0:Int)))] ⟨R,R,R,trivial⟩ ?_
   refine At.loop (fun m rs L=>∃ (x23:(List ref13_Border)) (v43:Value) (i6:Int),W.iter2 (ref13_Borders.l1 m1 (ref13_Borders.c1)) m x23 i6 Q∧rs=[.box g1 24 kMap m1,.row v43 49 kref13_Border x23]∧L=mkL [(1,(.eq (.pointer (some ⟨g1,0,none⟩)))),(3,(.eq v43)),(4,(.tv (kInt .i64) i6))]) ?_ ?_ (m:=n2) ⟨([]:List ref13_Border),(.slice none 0 0),(0:Int),hF,R,R⟩
   ·rintro rs L ⟨_,_,_,hF,_,_⟩;exact hF
   ·rintro m2 _ _ ⟨x23,v43,i6,hF,rfl,rfl⟩
    replace hF:=W.iter2_s hF
    unfold ref13_Borders.l1 at hF
    refine At.seq (At.seq (At.region (At.d R R R R (jb (x:=(.tv (kInt .i64) i6)) (ja R)) ?_)))
    refine At.d R R R R (je (ja R) fa_24_0) ?_
    refine At.d R R R R (jc (ja R) 0 R sub_Map_0 ty_22) ?_
    refine At.d R R R R (js (ja R) Tryz.underlying22) ?_
    refine At.d R R R R (jk (ja R) (ja R) vd) ?_
    refine At.done (At.vh ?_)
    refine At.cond (ja R) (fun hb14=>?_) (fun hb14=>?_)
    ·replace hF:=W.ite_t hb14 hF
     refine At.skip (At.vh ?_)
     refine At.cut (fun rs L=>∃ (x27:(List ref13_Border)) (v52:Value),ref13_Borders.c2 i6 (W.iter2 (ref13_Borders.l1 m1 (ref13_Borders.c1)) m2) x27 Q∧rs=[.box g1 24 kMap m1,.row v52 49 kref13_Border x27]∧L=mkL [(1,(.eq (.pointer (some ⟨g1,0,none⟩)))),(3,(.eq v52)),(4,(.tv (kInt .i64) i6))]) ?_ ?_
     ·refine At.block (At.seq (At.region (At.d R R R R (je (ja R) fa_24_0) ?_)))
      refine At.d R R R R (jc (ja R) 0 R sub_Map_0 ty_22) ?_
      refine At.d R R R R (jb (x:=(.tv (kInt .i64) i6)) (ja R)) ?_
      obtain ⟨hq16,hF⟩:=hF
      refine At.d R R R R (vf zObject (ja R) (ja R) Tryz.underlying22 ty_59 hq16) ?_
      refine At.d R R R R (vq (K:=kObject) (ja R) ty_59) ?_
      refine At.f R (eff_alloc R R R tz_59) ?_
      rintro _ _ ⟨g7,rfl,rfl⟩
      refine At.f R (jx R R (ja R) 0 R (Sub.self kObject) ty_59 (ja R)) ?_
      rintro _ _ ⟨rfl,rfl⟩
      refine At.done (At.vh (At.seq (At.region (At.d R R R R (jc (ja R) 0 R (Sub.self kObject) ty_59) ?_))))
      replace hF:=W.vm hF
      refine At.f R (jo R R (jq R en_51 (jf (ja R) jg)) [] R (ref13_Sides.ok hF)) ?_
      rintro _ _ ⟨_,_,⟨r27,v53,hF,rfl,rfl⟩,rfl,rfl⟩
      refine At.d R R R R (jd (x:=(.eq v53)) (ja R)) ?_
      refine At.done (At.vh (At.seq (At.region (At.d R R R R (jd (x:=(.tv (kInt .i64) (0:Int))) (ji _ _)) ?_))))
      refine At.done (At.vh (At.block ?_))
      obtain ⟨n1,hF⟩:=hF
      refine At.w [2,3,1,0] R [(1,(.eq (.pointer (some ⟨g1,0,none⟩)))),(3,(.eq v43)),(4,(.tv (kInt .i64) i6)),(5,(.eq (.pointer (some ⟨g7,0,none⟩)))),(6,(.eq v53)),(7,(.tv (kInt .i64) (0:Int)))] ⟨R,R,R,R,R,R,trivial⟩ ?_
      refine At.loop (fun m rs L=>∃ (x30:(List ref13_Border)) (v60:Value) (k18:Int),W.iter2 (ref13_Borders.l2 m1 i6 (ref13_Borders.c2 i6 (W.iter2 (ref13_Borders.l1 m1 (ref13_Borders.c1)) m2)) r27) m x30 k18 Q∧rs=[.box g1 24 kMap m1,.row v60 49 kref13_Border x30,.box g7 59 kObject (rd zObject m1.Objects i6),.row v53 50 (kPair kStr kStr) r27]∧L=mkL [(1,(.eq (.pointer (some ⟨g1,0,none⟩)))),(3,(.eq v60)),(4,(.tv (kInt .i64) i6)),(5,(.eq (.pointer (some ⟨g7,0,none⟩)))),(6,(.eq v53)),(7,(.tv (kInt .i64) k18))]) ?_ ?_ (m:=n1) ⟨x23,v43,(0:Int),hF,R,R⟩
      ·rintro rs L ⟨_,_,_,hF,_,_⟩;exact hF
      ·rintro m3 _ _ ⟨x30,v60,k18,hF,rfl,rfl⟩
       replace hF:=W.iter2_s hF
       unfold ref13_Borders.l2 at hF
       refine At.seq (At.seq (At.region (At.d R R R R (jb (x:=(.tv (kInt .i64) k18)) (ja R)) ?_)))
       refine At.d R R R R (jb (x:=(.eq v53)) (ja R)) ?_
       refine At.d R R R R (does_len_row (ja R) 3 R Tryz.underlying51) ?_
       refine At.d R R R R (jk (ja R) (ja R) vd) ?_
       refine At.d R R R R (jb (x:=(.tv kBool (decide (k18<(r27.length:Int))))) (ja R)) ?_
       refine At.vj R R R R (ju R) R (fun hg37=>(jc (ja R) 0 R (Sub.self kMap) ty_24)) ?_
       refine At.vj R R R R (ju R) R (fun hg38=>(jc (ja R) 2 R (Sub.self kObject) ty_59)) ?_
       replace hF:=W.vm hF
       refine At.effG R R R R (ju R) hF (fun r=>.tv kBool r) (fun hg39 hF=>eff_of (jn R R jp (jq R en_52 (jf (jh R hg39) (jf (jh R hg39) jg))) (ref13_Sound.ok hF) (by rintro _ _ ⟨r,_,rfl,_⟩;exact vl)) (by rintro _ _ ⟨_,_,⟨r,hF,rfl,rfl⟩,rfl,rfl⟩;exact ⟨r,hF,R,R⟩)) (fun r32 hF=>?_)
       refine At.d R R R R (jm (ja R) (ja R) (jl _) ve) ?_
       refine At.done (At.vh ?_)
       refine At.cond (ja R) (fun hb19=>?_) (fun hb19=>?_)
       ·replace hF:=W.ite_t hb19 hF
        refine At.skip (At.vh (At.seq (At.block ?_)))
        refine At.draw mixed [0,1,2,3] R [[],[8],[],[]] (fun φ w hgd=>?_)
        obtain ⟨hq19,hF⟩:=hF
        replace hF:=W.vm hF
        refine AtH.take [0,1,2,3] hgd 0 R R R R (D':=#[Y,N,N,N,N,N,N,N,N,N]) (by kernel_rfl) (fun _ _ _ _ h=>h) R (jb (x:=(.eq v60)) (ja R)) ?_
        refine AtH.take [0,1,2,3] hgd 1 R R R R (D':=#[Y,Y,N,N,N,N,N,N,N,N]) (by kernel_rfl) (fun _ _ _ _ h=>h) R (jc (ja R) 0 R (Sub.self kMap) ty_24) ?_
        refine AtH.take [0,2,3] hgd 2 R R R R (D':=#[Y,Y,Y,N,N,N,N,N,N,N]) (by kernel_rfl) (fun _ _ _ _ h=>h) R (jb (x:=(.eq v53)) (ja R)) ?_
        refine AtH.take [0,2,3] hgd 3 R R R R (D':=#[Y,Y,Y,Y,N,N,N,N,N,N]) (by kernel_rfl) (fun _ _ _ _ h=>h) R (jb (x:=(.tv (kInt .i64) k18)) (ja R)) ?_
        refine AtH.take [0,2,3] hgd 4 R R R R (D':=#[Y,Y,Y,Y,Y,N,N,N,N,N]) (by kernel_rfl) (fun _ _ _ _ h=>h) R (does_idx_row (ja R) 2 R (ja R) Tryz.underlying51 ty_50 hq19) ?_
        refine AtH.take [0,1,2,3] hgd 5 R R R R (D':=#[Y,Y,Y,Y,Y,Y,N,N,N,N]) (by kernel_rfl) (fun _ _ _ _ h=>h) R (Jc (ja R) 3 R k18 0 R ((⟨#[]⟩:BA),(⟨#[]⟩:BA)) hq19 (Sub.self (kPair kStr kStr)) ty_50) ?_
        refine AtH.take [0,2,3] hgd 6 R R R R (D':=#[Y,Y,Y,Y,Y,Y,Y,N,N,N]) (by kernel_rfl) (fun _ _ _ _ h=>h) R (je (ja R) fa_59_0) ?_
        refine AtH.take [0,1,2,3] hgd 7 R R R R (D':=#[Y,Y,Y,Y,Y,Y,Y,Y,N,N]) (by kernel_rfl) (fun _ _ _ _ h=>h) R (jc (ja R) 2 R sub_Object_0 ty_9) ?_
        refine AtH.all1 8 (by kernel_rfl) ?_
        refine AtH.f [(0,0),(2,2),(3,3)] R R R R R R (jo R R (jq R en_53 (jf (ja R) (jf (ja R) (jf (ja R) (jf (ja R) jg))))) [1] R (ref13_put__o.ok hF)) (D':=#[Y,Y,Y,Y,Y,Y,Y,Y,Y,N]) (by kernel_rfl) (by kernel_rfl) ?_
        rintro _ _ ⟨_,_,⟨r33,v62,hF,rfl,rfl⟩,rfl,rfl⟩
        refine ⟨.any,.inl R,?_⟩
        refine AtH.all1 9 (by kernel_rfl) ?_
        refine AtH.f [(0,1),(2,3),(3,4)] R R R R R R (eff_does R R R (jd (x:=(.eq v62)) (ja R))) (D':=#[Y,Y,Y,Y,Y,Y,Y,Y,Y,Y]) (by kernel_rfl) (by kernel_rfl) ?_
        rintro _ _ ⟨rfl,rfl⟩
        refine ⟨.any,.inl R,?_⟩
        refine AtH.done (by kernel_rfl) ?_
        refine At.n ?_
        refine At.vh (At.region (At.d R R R R (jb (x:=(.tv (kInt .i64) k18)) (ja R)) ?_))
        refine At.d R R R R (jk (ja R) (ji _ _) vc) ?_
        refine At.d R R R R (jd (x:=(.tv (kInt .i64) (w64 (k18+(1:Int))))) (ja R)) ?_
        refine At.done (At.vh ?_)
        refine At.w [1,0,3,4] R [(1,(.eq (.pointer (some ⟨g1,0,none⟩)))),(3,(.eq v62)),(4,(.tv (kInt .i64) i6)),(5,(.eq (.pointer (some ⟨g7,0,none⟩)))),(6,(.eq v53)),(7,(.tv (kInt .i64) (w64 (k18+(1:Int)))))] ⟨R,R,R,R,R,R,trivial⟩ (At.r ⟨r33,v62,(w64 (k18+(1:Int))),hF,R,R⟩)
       ·replace hF:=W.ite_f hb19 hF
        refine At.exit ?_
        refine At.x (At.x ?_)
        refine At.h ?_
        refine At.n ?_
        refine At.vh ?_
        refine At.w [0,1] R [(1,(.eq (.pointer (some ⟨g1,0,none⟩)))),(3,(.eq v60)),(4,(.tv (kInt .i64) i6))] ⟨R,R,R,trivial⟩ (At.r ⟨x30,v60,hF,R,R⟩)
     ·rintro _ _ ⟨x27,v52,hF,rfl,rfl⟩
      unfold ref13_Borders.c2 at hF
      refine At.region (At.d R R R R (jb (x:=(.tv (kInt .i64) i6)) (ja R)) ?_)
      refine At.d R R R R (jk (ja R) (ji _ _) vc) ?_
      refine At.d R R R R (jd (x:=(.tv (kInt .i64) (w64 (i6+(1:Int))))) (ja R)) ?_
      refine At.done (At.vh ?_)
      refine At.w [0,1] R [(1,(.eq (.pointer (some ⟨g1,0,none⟩)))),(3,(.eq v52)),(4,(.tv (kInt .i64) (w64 (i6+(1:Int)))))] ⟨R,R,R,trivial⟩ (At.r ⟨x27,v52,(w64 (i6+(1:Int))),hF,R,R⟩)
    ·replace hF:=W.ite_f hb14 hF
     refine At.exit ?_
     refine At.x (At.x ?_)
     refine At.h ?_
     refine At.vh ?_
     refine At.w [1] R [(3,(.eq v43))] ⟨R,trivial⟩ (At.r ⟨x23,v43,hF,R,R⟩)
  ·rintro _ _ ⟨x12,v22,hF,rfl,rfl⟩
   unfold ref13_Borders.c1 at hF
   refine At.seq (At.region (At.d R R R R (jb (x:=(.eq v22)) (ja R)) ?_))
   refine At.d R R R R (jd (x:=(.eq v22)) (ja R)) ?_
   refine At.done (At.vh (At.ret ?_))
   exact At.j rfl (rv_tmp rfl) [0] rfl ⟨x12,_,hF,rfl,rfl⟩
def ref03_Is.F (p1:Point):W Bool:=W.ret ((((decide ((-2097152:Int)≤p1.X))&&(decide (p1.X≤(2097152:Int))))&&(decide ((-2097152:Int)≤p1.Y)))&&(decide (p1.Y≤(2097152:Int))))
theorem ref03_Is.ok {p1:Point} {Q:Bool→Prop} (hF:ref03_Is.F p1 Q):Con Tryz.prog 76 [.tv kPoint p1] [] (fun ta rs'=>∃ (r:Bool),Q r∧ta=.tv kBool r∧rs'=[]):=by
 refine Con.i Tryz.func76 Tryz.ntmps76 R R (fun C=>?_)
 unfold ref03_Is.F at hF
 refine At.seq (At.region (At.f R (jw R R R (ja R)) ?_))
 rintro _ _ ⟨g1,rfl,rfl⟩
 refine At.d R R R R (jd (x:=(.tv kBool false)) (jl _)) ?_
 refine At.done (At.vh (At.seq (At.region (At.d R R R R (je (ja R) fa_37_0) ?_))))
 refine At.d R R R R (jc (ja R) 0 R sub_Point_0 ty_3) ?_
 refine At.d R R R R (jk (ja R) (ji _ _) bin_geq) ?_
 refine At.d R R R R (jb (x:=(.tv kBool (decide ((-2097152:Int)≤p1.X)))) (ja R)) ?_
 refine At.vj R R R R (ju R) R (fun hg1=>(je (ja R) fa_37_0)) ?_
 refine At.vj R R R R (ju R) R (fun hg2=>(jc (jh R hg2) 0 R sub_Point_0 ty_3)) ?_
 refine At.vj R R R R (ju R) R (fun hg3=>(jk (jh R hg3) (ji _ _) bin_leq)) ?_
 refine At.d R R R R (jm (ja R) (ja R) (jl _) ve) ?_
 refine At.d R R R R (jb (x:=(.tv kBool ((decide ((-2097152:Int)≤p1.X))&&(decide (p1.X≤(2097152:Int)))))) (ja R)) ?_
 refine At.vj R R R R (ju R) R (fun hg4=>(je (ja R) fa_37_1)) ?_
 refine At.vj R R R R (ju R) R (fun hg5=>(jc (jh R hg5) 0 R sub_Point_1 ty_3)) ?_
 refine At.vj R R R R (ju R) R (fun hg6=>(jk (jh R hg6) (ji _ _) bin_geq)) ?_
 refine At.d R R R R (jm (ja R) (ja R) (jl _) ve) ?_
 refine At.d R R R R (jb (x:=(.tv kBool (((decide ((-2097152:Int)≤p1.X))&&(decide (p1.X≤(2097152:Int))))&&(decide ((-2097152:Int)≤p1.Y))))) (ja R)) ?_
 refine At.vj R R R R (ju R) R (fun hg7=>(je (ja R) fa_37_1)) ?_
 refine At.vj R R R R (ju R) R (fun hg8=>(jc (jh R hg8) 0 R sub_Point_1 ty_3)) ?_
 refine At.vj R R R R (ju R) R (fun hg9=>(jk (jh R hg9) (ji _ _) bin_leq)) ?_
 refine At.d R R R R (jm (ja R) (ja R) (jl _) ve) ?_
 refine At.d R R R R (jd (x:=(.tv kBool ((((decide ((-2097152:Int)≤p1.X))&&(decide (p1.X≤(2097152:Int))))&&(decide ((-2097152:Int)≤p1.Y)))&&(decide (p1.Y≤(2097152:Int)))))) (ja R)) ?_
 refine At.done (At.vh (At.ret ?_))
 exact At.j rfl (rv_tmp rfl) [] rfl ⟨((((decide ((-2097152:Int)≤p1.X))&&(decide (p1.X≤(2097152:Int))))&&(decide ((-2097152:Int)≤p1.Y)))&&(decide (p1.Y≤(2097152:Int)))),hF,rfl,rfl⟩
def ref03_Segment.F (s1:Segment):W Bool:=W.bind (ref03_Is.F s1.A) (fun r1=>W.bind (W.ite r1 (ref03_Is.F s1.B) (W.ret false)) (fun r2=>W.ret (r1&&r2)))
theorem ref03_Segment.ok {s1:Segment} {Q:Bool→Prop} (hF:ref03_Segment.F s1 Q):Con Tryz.prog 48 [.tv kSegment s1] [] (fun ta rs'=>∃ (r:Bool),Q r∧ta=.tv kBool r∧rs'=[]):=by
 refine Con.i Tryz.func48 Tryz.ntmps48 R R (fun C=>?_)
 unfold ref03_Segment.F at hF
 refine At.seq (At.region (At.f R (jw R R R (ja R)) ?_))
 rintro _ _ ⟨g1,rfl,rfl⟩
 refine At.d R R R R (jd (x:=(.tv kBool false)) (jl _)) ?_
 refine At.done (At.vh (At.seq (At.region (At.d R R R R (je (ja R) fa_39_0) ?_))))
 refine At.d R R R R (jc (ja R) 0 R Ja ty_37) ?_
 replace hF:=W.vm hF
 refine At.f R (jn R R jp (jq R en_76 (jf (ja R) jg)) (ref03_Is.ok hF) (by rintro _ _ ⟨r,_,rfl,_⟩;exact vl)) ?_
 rintro _ _ ⟨_,_,⟨r1,hF,rfl,rfl⟩,rfl,rfl⟩
 refine At.d R R R R (jb (x:=(.tv kBool r1)) (ja R)) ?_
 refine At.vj R R R R (ju R) R (fun hg1=>(je (ja R) fa_39_1)) ?_
 refine At.vj R R R R (ju R) R (fun hg2=>(jc (jh R hg2) 0 R Jb ty_37)) ?_
 replace hF:=W.vm hF
 refine At.effG R R R R (ju R) hF (fun r=>.tv kBool r) (fun hg3 hF=>eff_of (jn R R jp (jq R en_76 (jf (jh R hg3) jg)) (ref03_Is.ok hF) (by rintro _ _ ⟨r,_,rfl,_⟩;exact vl)) (by rintro _ _ ⟨_,_,⟨r,hF,rfl,rfl⟩,rfl,rfl⟩;exact ⟨r,hF,R,R⟩)) (fun r2 hF=>?_)
 refine At.d R R R R (jm (ja R) (ja R) (jl _) ve) ?_
 refine At.d R R R R (jd (x:=(.tv kBool (r1&&r2))) (ja R)) ?_
 refine At.done (At.vh (At.ret ?_))
 exact At.j rfl (rv_tmp rfl) [] rfl ⟨(r1&&r2),hF,rfl,rfl⟩
def ref03_cross.F (a1:Point) (b1:Point) (c1:Point):W Int:=W.ret (w64 ((w64 ((w64 (b1.X-a1.X))*(w64 (c1.Y-a1.Y))))-(w64 ((w64 (b1.Y-a1.Y))*(w64 (c1.X-a1.X))))))
theorem ref03_cross.ok {a1:Point} {b1:Point} {c1:Point} {Q:Int→Prop} (hF:ref03_cross.F a1 b1 c1 Q):Con Tryz.prog 128 [.tv kPoint a1,.tv kPoint b1,.tv kPoint c1] [] (fun ta rs'=>∃ (r:Int),Q r∧ta=.tv (kInt .i64) r∧rs'=[]):=by
 refine Con.i Tryz.func128 Tryz.ntmps128 R R (fun C=>?_)
 unfold ref03_cross.F at hF
 refine At.seq (At.region (At.f R (jw R R R (ja R)) ?_))
 rintro _ _ ⟨g1,rfl,rfl⟩
 refine At.f R (jw R R R (ja R)) ?_
 rintro _ _ ⟨g2,rfl,rfl⟩
 refine At.f R (jw R R R (ja R)) ?_
 rintro _ _ ⟨g3,rfl,rfl⟩
 refine At.d R R R R (jd (x:=(.tv (kInt .i64) (0:Int))) (ji _ _)) ?_
 refine At.done (At.vh (At.seq (At.region (At.d R R R R (je (ja R) fa_37_0) ?_))))
 refine At.d R R R R (jc (ja R) 1 R sub_Point_0 ty_3) ?_
 refine At.d R R R R (je (ja R) fa_37_0) ?_
 refine At.d R R R R (jc (ja R) 2 R sub_Point_0 ty_3) ?_
 refine At.d R R R R (jk (ja R) (ja R) bin_sub) ?_
 refine At.d R R R R (je (ja R) fa_37_1) ?_
 refine At.d R R R R (jc (ja R) 0 R sub_Point_1 ty_3) ?_
 refine At.d R R R R (je (ja R) fa_37_1) ?_
 refine At.d R R R R (jc (ja R) 2 R sub_Point_1 ty_3) ?_
 refine At.d R R R R (jk (ja R) (ja R) bin_sub) ?_
 refine At.d R R R R (jk (ja R) (ja R) bin_mul) ?_
 refine At.d R R R R (je (ja R) fa_37_1) ?_
 refine At.d R R R R (jc (ja R) 1 R sub_Point_1 ty_3) ?_
 refine At.d R R R R (je (ja R) fa_37_1) ?_
 refine At.d R R R R (jc (ja R) 2 R sub_Point_1 ty_3) ?_
 refine At.d R R R R (jk (ja R) (ja R) bin_sub) ?_
 refine At.d R R R R (je (ja R) fa_37_0) ?_
 refine At.d R R R R (jc (ja R) 0 R sub_Point_0 ty_3) ?_
 refine At.d R R R R (je (ja R) fa_37_0) ?_
 refine At.d R R R R (jc (ja R) 2 R sub_Point_0 ty_3) ?_
 refine At.d R R R R (jk (ja R) (ja R) bin_sub) ?_
 refine At.d R R R R (jk (ja R) (ja R) bin_mul) ?_
 refine At.d R R R R (jk (ja R) (ja R) bin_sub) ?_
 refine At.d R R R R (jd (x:=(.tv (kInt .i64) (w64 ((w64 ((w64 (b1.X-a1.X))*(w64 (c1.Y-a1.Y))))-(w64 ((w64 (b1.Y-a1.Y))*(w64 (c1.X-a1.X)))))))) (ja R)) ?_
 refine At.done (At.vh (At.ret ?_))
 exact At.j rfl (rv_tmp rfl) [] rfl ⟨(w64 ((w64 ((w64 (b1.X-a1.X))*(w64 (c1.Y-a1.Y))))-(w64 ((w64 (b1.Y-a1.Y))*(w64 (c1.X-a1.X)))))),hF,rfl,rfl⟩
def ref03_On.F (s1:Segment) (p1:Point):W Bool:=W.bind (ref03_Segment.F s1) (fun r1=>W.bind (W.ite (!(!r1)) (ref03_Is.F p1) (W.ret false)) (fun r2=>W.ite ((!r1)||(!r2)) (W.ret false) (W.bind (W.ite ((((decide ((if s1.B.X<s1.A.X then s1.B.X else s1.A.X)≤p1.X))&&(decide (p1.X≤(if s1.A.X<s1.B.X then s1.B.X else s1.A.X))))&&(decide ((if s1.B.Y<s1.A.Y then s1.B.Y else s1.A.Y)≤p1.Y)))&&(decide (p1.Y≤(if s1.A.Y<s1.B.Y then s1.B.Y else s1.A.Y)))) (ref03_cross.F s1.A s1.B p1) (W.ret (0:Int))) (fun r3=>W.ret (((((decide ((if s1.B.X<s1.A.X then s1.B.X else s1.A.X)≤p1.X))&&(decide (p1.X≤(if s1.A.X<s1.B.X then s1.B.X else s1.A.X))))&&(decide ((if s1.B.Y<s1.A.Y then s1.B.Y else s1.A.Y)≤p1.Y)))&&(decide (p1.Y≤(if s1.A.Y<s1.B.Y then s1.B.Y else s1.A.Y))))&&(r3==(0:Int)))))))
theorem ref03_On.ok {s1:Segment} {p1:Point} {Q:Bool→Prop} (hF:ref03_On.F s1 p1 Q):Con Tryz.prog 77 [.tv kSegment s1,.tv kPoint p1] [] (fun ta rs'=>∃ (r:Bool),Q r∧ta=.tv kBool r∧rs'=[]):=by
 refine Con.i Tryz.func77 Tryz.ntmps77 R R (fun C=>?_)
 unfold ref03_On.F at hF
 refine At.seq (At.region (At.f R (jw R R R (ja R)) ?_))
 rintro _ _ ⟨g1,rfl,rfl⟩
 refine At.f R (jw R R R (ja R)) ?_
 rintro _ _ ⟨g2,rfl,rfl⟩
 refine At.d R R R R (jd (x:=(.tv kBool false)) (jl _)) ?_
 refine At.done (At.vh (At.seq (At.seq (At.region (At.d R R R R (jc (ja R) 1 R (Sub.self kSegment) ty_39) ?_)))))
 replace hF:=W.vm hF
 refine At.f R (jn R R jp (jq R en_48 (jf (ja R) jg)) (ref03_Segment.ok hF) (by rintro _ _ ⟨r,_,rfl,_⟩;exact vl)) ?_
 rintro _ _ ⟨_,_,⟨r1,hF,rfl,rfl⟩,rfl,rfl⟩
 refine At.d R R R R (does_not (ja R)) ?_
 refine At.d R R R R (jb (x:=(.tv kBool (!r1))) (ja R)) ?_
 refine At.vj R R R R (jv R) R (fun hg1=>(jc (ja R) 0 R (Sub.self kPoint) ty_37)) ?_
 replace hF:=W.vm hF
 refine At.effG R R R R (jv R) hF (fun r=>.tv kBool r) (fun hg2 hF=>eff_of (jn R R jp (jq R en_76 (jf (jh R hg2) jg)) (ref03_Is.ok hF) (by rintro _ _ ⟨r,_,rfl,_⟩;exact vl)) (by rintro _ _ ⟨_,_,⟨r,hF,rfl,rfl⟩,rfl,rfl⟩;exact ⟨r,hF,R,R⟩)) (fun r2 hF=>?_)
 refine At.vj R R R R (jv R) R (fun hg3=>(does_not (jh R hg3))) ?_
 refine At.d R R R R (jm (ja R) (jl _) (ja R) pick_or) ?_
 refine At.done (At.vh ?_)
 refine At.cond (ja R) (fun hb1=>?_) (fun hb1=>?_)
 ·replace hF:=W.ite_t hb1 hF
  refine At.seq (At.region (At.d R R R R (jd (x:=(.tv kBool false)) (jl _)) ?_))
  refine At.done (At.vh (At.ret (At.vi ?_)))
  exact At.j rfl (rv_tmp rfl) [] rfl ⟨false,hF,rfl,rfl⟩
 ·replace hF:=W.ite_f hb1 hF
  refine At.skip (At.vh (At.seq (At.region (At.d R R R R (je (ja R) fa_37_0) ?_))))
  refine At.d R R R R (jc (ja R) 0 R sub_Point_0 ty_3) ?_
  refine At.d R R R R (je (ja R) fa_39_0) ?_
  refine At.d R R R R (je (ja R) fa_37_0) ?_
  refine At.d R R R R (jc (ja R) 1 R sub_Segment_0_0 ty_3) ?_
  refine At.d R R R R (je (ja R) fa_39_1) ?_
  refine At.d R R R R (je (ja R) fa_37_0) ?_
  refine At.d R R R R (jc (ja R) 1 R sub_Segment_1_0 ty_3) ?_
  refine At.d R R R R (does_min (ja R) (ja R)) ?_
  refine At.d R R R R (jk (ja R) (ja R) bin_geq) ?_
  refine At.d R R R R (jb (x:=(.tv kBool (decide ((if s1.B.X<s1.A.X then s1.B.X else s1.A.X)≤p1.X)))) (ja R)) ?_
  refine At.vj R R R R (ju R) R (fun hg4=>(je (ja R) fa_37_0)) ?_
  refine At.vj R R R R (ju R) R (fun hg5=>(jc (jh R hg5) 0 R sub_Point_0 ty_3)) ?_
  refine At.vj R R R R (ju R) R (fun hg6=>(je (ja R) fa_39_0)) ?_
  refine At.vj R R R R (ju R) R (fun hg7=>(je (jh R hg7) fa_37_0)) ?_
  refine At.vj R R R R (ju R) R (fun hg8=>(jc (jh R hg8) 1 R sub_Segment_0_0 ty_3)) ?_
  refine At.vj R R R R (ju R) R (fun hg9=>(je (ja R) fa_39_1)) ?_
  refine At.vj R R R R (ju R) R (fun hg10=>(je (jh R hg10) fa_37_0)) ?_
  refine At.vj R R R R (ju R) R (fun hg11=>(jc (jh R hg11) 1 R sub_Segment_1_0 ty_3)) ?_
  refine At.vj R R R R (ju R) R (fun hg12=>(does_max (jh R hg12) (jh R hg12))) ?_
  refine At.vj R R R R (ju R) R (fun hg13=>(jk (jh R hg13) (jh R hg13) bin_leq)) ?_
  refine At.d R R R R (jm (ja R) (ja R) (jl _) ve) ?_
  refine At.d R R R R (jb (x:=(.tv kBool ((decide ((if s1.B.X<s1.A.X then s1.B.X else s1.A.X)≤p1.X))&&(decide (p1.X≤(if s1.A.X<s1.B.X then s1.B.X else s1.A.X)))))) (ja R)) ?_
  refine At.vj R R R R (ju R) R (fun hg14=>(je (ja R) fa_37_1)) ?_
  refine At.vj R R R R (ju R) R (fun hg15=>(jc (jh R hg15) 0 R sub_Point_1 ty_3)) ?_
  refine At.vj R R R R (ju R) R (fun hg16=>(je (ja R) fa_39_0)) ?_
  refine At.vj R R R R (ju R) R (fun hg17=>(je (jh R hg17) fa_37_1)) ?_
  refine At.vj R R R R (ju R) R (fun hg18=>(jc (jh R hg18) 1 R sub_Segment_0_1 ty_3)) ?_
  refine At.vj R R R R (ju R) R (fun hg19=>(je (ja R) fa_39_1)) ?_
  refine At.vj R R R R (ju R) R (fun hg20=>(je (jh R hg20) fa_37_1)) ?_
  refine At.vj R R R R (ju R) R (fun hg21=>(jc (jh R hg21) 1 R sub_Segment_1_1 ty_3)) ?_
  refine At.vj R R R R (ju R) R (fun hg22=>(does_min (jh R hg22) (jh R hg22))) ?_
  refine At.vj R R R R (ju R) R (fun hg23=>(jk (jh R hg23) (jh R hg23) bin_geq)) ?_
  refine At.d R R R R (jm (ja R) (ja R) (jl _) ve) ?_
  refine At.d R R R R (jb (x:=(.tv kBool (((decide ((if s1.B.X<s1.A.X then s1.B.X else s1.A.X)≤p1.X))&&(decide (p1.X≤(if s1.A.X<s1.B.X then s1.B.X else s1.A.X))))&&(decide ((if s1.B.Y<s1.A.Y then s1.B.Y else s1.A.Y)≤p1.Y))))) (ja R)) ?_
  refine At.vj R R R R (ju R) R (fun hg24=>(je (ja R) fa_37_1)) ?_
  refine At.vj R R R R (ju R) R (fun hg25=>(jc (jh R hg25) 0 R sub_Point_1 ty_3)) ?_
  refine At.vj R R R R (ju R) R (fun hg26=>(je (ja R) fa_39_0)) ?_
  refine At.vj R R R R (ju R) R (fun hg27=>(je (jh R hg27) fa_37_1)) ?_
  refine At.vj R R R R (ju R) R (fun hg28=>(jc (jh R hg28) 1 R sub_Segment_0_1 ty_3)) ?_
  refine At.vj R R R R (ju R) R (fun hg29=>(je (ja R) fa_39_1)) ?_
  refine At.vj R R R R (ju R) R (fun hg30=>(je (jh R hg30) fa_37_1)) ?_
  refine At.vj R R R R (ju R) R (fun hg31=>(jc (jh R hg31) 1 R sub_Segment_1_1 ty_3)) ?_
  refine At.vj R R R R (ju R) R (fun hg32=>(does_max (jh R hg32) (jh R hg32))) ?_
  refine At.vj R R R R (ju R) R (fun hg33=>(jk (jh R hg33) (jh R hg33) bin_leq)) ?_
  refine At.d R R R R (jm (ja R) (ja R) (jl _) ve) ?_
  refine At.d R R R R (jd (x:=(.tv kBool ((((decide ((if s1.B.X<s1.A.X then s1.B.X else s1.A.X)≤p1.X))&&(decide (p1.X≤(if s1.A.X<s1.B.X then s1.B.X else s1.A.X))))&&(decide ((if s1.B.Y<s1.A.Y then s1.B.Y else s1.A.Y)≤p1.Y)))&&(decide (p1.Y≤(if s1.A.Y<s1.B.Y then s1.B.Y else s1.A.Y)))))) (ja R)) ?_
  refine At.done (At.vh (At.seq (At.region (At.d R R R R (jb (x:=(.tv kBool ((((decide ((if s1.B.X<s1.A.X then s1.B.X else s1.A.X)≤p1.X))&&(decide (p1.X≤(if s1.A.X<s1.B.X then s1.B.X else s1.A.X))))&&(decide ((if s1.B.Y<s1.A.Y then s1.B.Y else s1.A.Y)≤p1.Y)))&&(decide (p1.Y≤(if s1.A.Y<s1.B.Y then s1.B.Y else s1.A.Y)))))) (ja R)) ?_))))
  refine At.d R R R R (jb (x:=(.tv kBool ((((decide ((if s1.B.X<s1.A.X then s1.B.X else s1.A.X)≤p1.X))&&(decide (p1.X≤(if s1.A.X<s1.B.X then s1.B.X else s1.A.X))))&&(decide ((if s1.B.Y<s1.A.Y then s1.B.Y else s1.A.Y)≤p1.Y)))&&(decide (p1.Y≤(if s1.A.Y<s1.B.Y then s1.B.Y else s1.A.Y)))))) (ja R)) ?_
  refine At.vj R R R R (ju R) R (fun hg34=>(je (ja R) fa_39_0)) ?_
  refine At.vj R R R R (ju R) R (fun hg35=>(jc (jh R hg35) 1 R Ja ty_37)) ?_
  refine At.vj R R R R (ju R) R (fun hg36=>(je (ja R) fa_39_1)) ?_
  refine At.vj R R R R (ju R) R (fun hg37=>(jc (jh R hg37) 1 R Jb ty_37)) ?_
  refine At.vj R R R R (ju R) R (fun hg38=>(jc (ja R) 0 R (Sub.self kPoint) ty_37)) ?_
  replace hF:=W.vm hF
  refine At.effG R R R R (ju R) hF (fun r=>.tv (kInt .i64) r) (fun hg39 hF=>eff_of (jn R R jp (jq R en_128 (jf (jh R hg39) (jf (jh R hg39) (jf (jh R hg39) jg)))) (ref03_cross.ok hF) (by rintro _ _ ⟨r,_,rfl,_⟩;exact flat_int)) (by rintro _ _ ⟨_,_,⟨r,hF,rfl,rfl⟩,rfl,rfl⟩;exact ⟨r,hF,R,R⟩)) (fun r3 hF=>?_)
  refine At.vj R R R R (ju R) R (fun hg40=>(jk (jh R hg40) (ji _ _) bin_eql)) ?_
  refine At.d R R R R (jm (ja R) (ja R) (jl _) ve) ?_
  refine At.d R R R R (jd (x:=(.tv kBool (((((decide ((if s1.B.X<s1.A.X then s1.B.X else s1.A.X)≤p1.X))&&(decide (p1.X≤(if s1.A.X<s1.B.X then s1.B.X else s1.A.X))))&&(decide ((if s1.B.Y<s1.A.Y then s1.B.Y else s1.A.Y)≤p1.Y)))&&(decide (p1.Y≤(if s1.A.Y<s1.B.Y then s1.B.Y else s1.A.Y))))&&(r3==(0:Int))))) (ja R)) ?_
  refine At.done (At.vh (At.ret ?_))
  exact At.j rfl (rv_tmp rfl) [] rfl ⟨(((((decide ((if s1.B.X<s1.A.X then s1.B.X else s1.A.X)≤p1.X))&&(decide (p1.X≤(if s1.A.X<s1.B.X then s1.B.X else s1.A.X))))&&(decide ((if s1.B.Y<s1.A.Y then s1.B.Y else s1.A.Y)≤p1.Y)))&&(decide (p1.Y≤(if s1.A.Y<s1.B.Y then s1.B.Y else s1.A.Y))))&&(r3==(0:Int))),hF,rfl,rfl⟩
def ref03_sign.F (n1:Int):W Int:=W.ite (decide (n1<(0:Int))) (W.ret (-1:Int)) (W.ite (decide ((0:Int)<n1)) (W.ret (1:Int)) (W.ret (0:Int)))
theorem ref03_sign.ok {n1:Int} {Q:Int→Prop} (hF:ref03_sign.F n1 Q):Con Tryz.prog 129 [.tv (kInt .i64) n1] [] (fun ta rs'=>∃ (r:Int),Q r∧ta=.tv (kInt .i64) r∧rs'=[]):=by
 refine Con.i Tryz.func129 Tryz.ntmps129 R R (fun C=>?_)
 unfold ref03_sign.F at hF
 refine At.seq (At.region (At.d R R R R (jd (x:=(.tv (kInt .i64) (0:Int))) (ji _ _)) ?_))
 refine At.done (At.vh (At.seq (At.seq (At.region (At.d R R R R (jb (x:=(.tv (kInt .i64) n1)) (ja R)) ?_)))))
 refine At.d R R R R (jk (ja R) (ji _ _) vd) ?_
 refine At.done (At.vh ?_)
 refine At.cond (ja R) (fun hb1=>?_) (fun hb1=>?_)
 ·replace hF:=W.ite_t hb1 hF
  refine At.seq (At.region (At.d R R R R (jd (x:=(.tv (kInt .i64) (-1:Int))) (ji _ _)) ?_))
  refine At.done (At.vh (At.ret (At.vi ?_)))
  exact At.j rfl (rv_tmp rfl) [] rfl ⟨(-1:Int),hF,rfl,rfl⟩
 ·replace hF:=W.ite_f hb1 hF
  refine At.skip (At.vh (At.seq (At.seq (At.region (At.d R R R R (jb (x:=(.tv (kInt .i64) n1)) (ja R)) ?_)))))
  refine At.d R R R R (jk (ja R) (ji _ _) bin_gtr) ?_
  refine At.done (At.vh ?_)
  refine At.cond (ja R) (fun hb2=>?_) (fun hb2=>?_)
  ·replace hF:=W.ite_t hb2 hF
   refine At.seq (At.region (At.d R R R R (jd (x:=(.tv (kInt .i64) (1:Int))) (ji _ _)) ?_))
   refine At.done (At.vh (At.ret (At.vi ?_)))
   exact At.j rfl (rv_tmp rfl) [] rfl ⟨(1:Int),hF,rfl,rfl⟩
  ·replace hF:=W.ite_f hb2 hF
   refine At.skip (At.vh (At.seq (At.region (At.d R R R R (jd (x:=(.tv (kInt .i64) (0:Int))) (ji _ _)) ?_))))
   refine At.done (At.vh (At.ret ?_))
   exact At.j rfl (rv_tmp rfl) [] rfl ⟨(0:Int),hF,rfl,rfl⟩
def ref03_Orient.F (a1:Point) (b1:Point) (c1:Point):W Int:=W.bind (ref03_Is.F a1) (fun r1=>W.bind (W.ite (!(!r1)) (ref03_Is.F b1) (W.ret false)) (fun r2=>W.bind (W.ite (!((!r1)||(!r2))) (ref03_Is.F c1) (W.ret false)) (fun r3=>W.ite (((!r1)||(!r2))||(!r3)) (W.ret (0:Int)) (W.bind (ref03_cross.F a1 b1 c1) (fun r4=>W.bind (ref03_sign.F r4) (fun r5=>W.ret r5))))))
theorem ref03_Orient.ok {a1:Point} {b1:Point} {c1:Point} {Q:Int→Prop} (hF:ref03_Orient.F a1 b1 c1 Q):Con Tryz.prog 79 [.tv kPoint a1,.tv kPoint b1,.tv kPoint c1] [] (fun ta rs'=>∃ (r:Int),Q r∧ta=.tv (kInt .i64) r∧rs'=[]):=by
 refine Con.i Tryz.func79 Tryz.ntmps79 R R (fun C=>?_)
 unfold ref03_Orient.F at hF
 refine At.seq (At.region (At.f R (jw R R R (ja R)) ?_))
 rintro _ _ ⟨g1,rfl,rfl⟩
 refine At.f R (jw R R R (ja R)) ?_
 rintro _ _ ⟨g2,rfl,rfl⟩
 refine At.f R (jw R R R (ja R)) ?_
 rintro _ _ ⟨g3,rfl,rfl⟩
 refine At.d R R R R (jd (x:=(.tv (kInt .i64) (0:Int))) (ji _ _)) ?_
 refine At.done (At.vh (At.seq (At.seq (At.region (At.d R R R R (jc (ja R) 2 R (Sub.self kPoint) ty_37) ?_)))))
 replace hF:=W.vm hF
 refine At.f R (jn R R jp (jq R en_76 (jf (ja R) jg)) (ref03_Is.ok hF) (by rintro _ _ ⟨r,_,rfl,_⟩;exact vl)) ?_
 rintro _ _ ⟨_,_,⟨r1,hF,rfl,rfl⟩,rfl,rfl⟩
 refine At.d R R R R (does_not (ja R)) ?_
 refine At.d R R R R (jb (x:=(.tv kBool (!r1))) (ja R)) ?_
 refine At.vj R R R R (jv R) R (fun hg1=>(jc (ja R) 1 R (Sub.self kPoint) ty_37)) ?_
 replace hF:=W.vm hF
 refine At.effG R R R R (jv R) hF (fun r=>.tv kBool r) (fun hg2 hF=>eff_of (jn R R jp (jq R en_76 (jf (jh R hg2) jg)) (ref03_Is.ok hF) (by rintro _ _ ⟨r,_,rfl,_⟩;exact vl)) (by rintro _ _ ⟨_,_,⟨r,hF,rfl,rfl⟩,rfl,rfl⟩;exact ⟨r,hF,R,R⟩)) (fun r2 hF=>?_)
 refine At.vj R R R R (jv R) R (fun hg3=>(does_not (jh R hg3))) ?_
 refine At.d R R R R (jm (ja R) (jl _) (ja R) pick_or) ?_
 refine At.d R R R R (jb (x:=(.tv kBool ((!r1)||(!r2)))) (ja R)) ?_
 refine At.vj R R R R (jv R) R (fun hg4=>(jc (ja R) 0 R (Sub.self kPoint) ty_37)) ?_
 replace hF:=W.vm hF
 refine At.effG R R R R (jv R) hF (fun r=>.tv kBool r) (fun hg5 hF=>eff_of (jn R R jp (jq R en_76 (jf (jh R hg5) jg)) (ref03_Is.ok hF) (by rintro _ _ ⟨r,_,rfl,_⟩;exact vl)) (by rintro _ _ ⟨_,_,⟨r,hF,rfl,rfl⟩,rfl,rfl⟩;exact ⟨r,hF,R,R⟩)) (fun r3 hF=>?_)
 refine At.vj R R R R (jv R) R (fun hg6=>(does_not (jh R hg6))) ?_
 refine At.d R R R R (jm (ja R) (jl _) (ja R) pick_or) ?_
 refine At.done (At.vh ?_)
 refine At.cond (ja R) (fun hb1=>?_) (fun hb1=>?_)
 ·replace hF:=W.ite_t hb1 hF
  refine At.seq (At.region (At.d R R R R (jd (x:=(.tv (kInt .i64) (0:Int))) (ji _ _)) ?_))
  refine At.done (At.vh (At.ret (At.vi ?_)))
  exact At.j rfl (rv_tmp rfl) [] rfl ⟨(0:Int),hF,rfl,rfl⟩
 ·replace hF:=W.ite_f hb1 hF
  refine At.skip (At.vh (At.seq (At.region (At.d R R R R (jc (ja R) 2 R (Sub.self kPoint) ty_37) ?_))))
  refine At.d R R R R (jc (ja R) 1 R (Sub.self kPoint) ty_37) ?_
  refine At.d R R R R (jc (ja R) 0 R (Sub.self kPoint) ty_37) ?_
  replace hF:=W.vm hF
  refine At.f R (jn R R jp (jq R en_128 (jf (ja R) (jf (ja R) (jf (ja R) jg)))) (ref03_cross.ok hF) (by rintro _ _ ⟨r,_,rfl,_⟩;exact flat_int)) ?_
  rintro _ _ ⟨_,_,⟨r4,hF,rfl,rfl⟩,rfl,rfl⟩
  replace hF:=W.vm hF
  refine At.f R (jn R R jp (jq R en_129 (jf (ja R) jg)) (ref03_sign.ok hF) (by rintro _ _ ⟨r,_,rfl,_⟩;exact flat_int)) ?_
  rintro _ _ ⟨_,_,⟨r5,hF,rfl,rfl⟩,rfl,rfl⟩
  refine At.d R R R R (jd (x:=(.tv (kInt .i64) r5)) (ja R)) ?_
  refine At.done (At.vh (At.ret ?_))
  exact At.j rfl (rv_tmp rfl) [] rfl ⟨r5,hF,rfl,rfl⟩
def ref03_end.F (s1:Segment) (p1:Point):W Bool:=W.ret ((eq_Point p1 s1.A)||(eq_Point p1 s1.B))
theorem ref03_end.ok {s1:Segment} {p1:Point} {Q:Bool→Prop} (hF:ref03_end.F s1 p1 Q):Con Tryz.prog 78 [.tv kSegment s1,.tv kPoint p1] [] (fun ta rs'=>∃ (r:Bool),Q r∧ta=.tv kBool r∧rs'=[]):=by
 refine Con.i Tryz.func78 Tryz.ntmps78 R R (fun C=>?_)
 unfold ref03_end.F at hF
 refine At.seq (At.region (At.f R (jw R R R (ja R)) ?_))
 rintro _ _ ⟨g1,rfl,rfl⟩
 refine At.f R (jw R R R (ja R)) ?_
 rintro _ _ ⟨g2,rfl,rfl⟩
 refine At.d R R R R (jd (x:=(.tv kBool false)) (jl _)) ?_
 refine At.done (At.vh (At.seq (At.region (At.d R R R R (jc (ja R) 0 R (Sub.self kPoint) ty_37) ?_))))
 refine At.d R R R R (je (ja R) fa_39_0) ?_
 refine At.d R R R R (jc (ja R) 1 R Ja ty_37) ?_
 refine At.d R R R R (jk (ja R) (ja R) (bin_eq eqty_37)) ?_
 refine At.d R R R R (jb (x:=(.tv kBool (eq_Point p1 s1.A))) (ja R)) ?_
 refine At.vj R R R R (jv R) R (fun hg1=>(jc (ja R) 0 R (Sub.self kPoint) ty_37)) ?_
 refine At.vj R R R R (jv R) R (fun hg2=>(je (ja R) fa_39_1)) ?_
 refine At.vj R R R R (jv R) R (fun hg3=>(jc (jh R hg3) 1 R Jb ty_37)) ?_
 refine At.vj R R R R (jv R) R (fun hg4=>(jk (jh R hg4) (jh R hg4) (bin_eq eqty_37))) ?_
 refine At.d R R R R (jm (ja R) (jl _) (ja R) pick_or) ?_
 refine At.d R R R R (jd (x:=(.tv kBool ((eq_Point p1 s1.A)||(eq_Point p1 s1.B)))) (ja R)) ?_
 refine At.done (At.vh (At.ret ?_))
 exact At.j rfl (rv_tmp rfl) [] rfl ⟨((eq_Point p1 s1.A)||(eq_Point p1 s1.B)),hF,rfl,rfl⟩
def ref03_Meets.c1 (s1:Segment) (t1:Segment) (x6:(List Point)):W Int:=W.ite (decide ((1:Int)<(x6.length:Int))) (W.ret (5:Int)) (W.ite ((x6.length:Int)==(1:Int)) (W.req (0≤(0:Int)∧(0:Int)<(x6.length:Int)) (W.bind (ref03_end.F s1 (rd zPoint x6 (0:Int))) (fun r7=>W.req (r7=true→0≤(0:Int)∧(0:Int)<(x6.length:Int)) (W.bind (W.ite r7 (ref03_end.F t1 (rd zPoint x6 (0:Int))) (W.ret false)) (fun r8=>W.ite (r7&&r8) (W.ret (1:Int)) (W.ret (2:Int))))))) (W.bind (ref03_Orient.F s1.A s1.B t1.A) (fun r9=>W.bind (ref03_Orient.F s1.A s1.B t1.B) (fun r10=>W.bind (W.ite (decide ((w64 (r9*r10))<(0:Int))) (ref03_Orient.F t1.A t1.B s1.A) (W.ret (0:Int))) (fun r11=>W.bind (W.ite (decide ((w64 (r9*r10))<(0:Int))) (ref03_Orient.F t1.A t1.B s1.B) (W.ret (0:Int))) (fun r12=>W.ite ((decide ((w64 (r9*r10))<(0:Int)))&&(decide ((w64 (r11*r12))<(0:Int)))) (W.ret (3:Int)) (W.ret (0:Int))))))))
def ref03_Meets.c2 (i6:Int) (A1:(List Point)→Int→W Int) (x12:(List Point)):W Int:=A1 x12 (w64 (i6+(1:Int)))
def ref03_Meets.c3 (s1:Segment) (t1:Segment) (x11:(List Point)) (i6:Int) (K2:(List Point)→W Int) (twice24:Bool):W Int:=W.req ((!twice24)=true→0≤i6∧i6<(([s1.A,s1.B,t1.A,t1.B]:List Point).length:Int)) (W.bind (W.ite (!twice24) (ref03_On.F s1 (rd zPoint ([s1.A,s1.B,t1.A,t1.B]:List Point) i6)) (W.ret false)) (fun r19=>W.req (((!twice24)&&r19)=true→0≤i6∧i6<(([s1.A,s1.B,t1.A,t1.B]:List Point).length:Int)) (W.bind (W.ite ((!twice24)&&r19) (ref03_On.F t1 (rd zPoint ([s1.A,s1.B,t1.A,t1.B]:List Point) i6)) (W.ret false)) (fun r20=>W.ite (((!twice24)&&r19)&&r20) (W.req (0≤i6∧i6<(([s1.A,s1.B,t1.A,t1.B]:List Point).length:Int)) (W.req (0≤i6∧i6<(([s1.A,s1.B,t1.A,t1.B]:List Point).length:Int)) (W.req ((x11.length+([(rd zPoint ([s1.A,s1.B,t1.A,t1.B]:List Point) i6)]:List Point).length)*16≤140737488355328∧x11.length+([(rd zPoint ([s1.A,s1.B,t1.A,t1.B]:List Point) i6)]:List Point).length≤140737488355328) (K2 (x11++([(rd zPoint ([s1.A,s1.B,t1.A,t1.B]:List Point) i6)]:List Point)))))) (K2 x11)))))
def ref03_Meets.l2 (s1:Segment) (t1:Segment) (x11:(List Point)) (i6:Int) (K3:Bool→W Int) (A2:Bool→Int→W Int) (twice27:Bool) (k21:Int):W Int:=W.ite (decide (k21<(x11.length:Int))) (W.req ((!twice27)=true→0≤k21∧k21<(x11.length:Int)) (W.req ((!twice27)=true→0≤i6∧i6<(([s1.A,s1.B,t1.A,t1.B]:List Point).length:Int)) (A2 (twice27||(eq_Point (rd zPoint x11 k21) (rd zPoint ([s1.A,s1.B,t1.A,t1.B]:List Point) i6))) (w64 (k21+(1:Int)))))) (K3 twice27)
def ref03_Meets.l1 (s1:Segment) (t1:Segment) (K1:(List Point)→W Int) (A1:(List Point)→Int→W Int) (x11:(List Point)) (i6:Int):W Int:=W.ite (decide (i6<(4:Int))) (W.ex fun n=>W.iter2 (ref03_Meets.l2 s1 t1 x11 i6 (ref03_Meets.c3 s1 t1 x11 i6 (ref03_Meets.c2 i6 A1))) n false (0:Int)) (K1 x11)
def ref03_Meets.F (s1:Segment) (t1:Segment):W Int:=W.bind (ref03_Segment.F s1) (fun r1=>W.bind (W.ite (!(!r1)) (ref03_Segment.F t1) (W.ret false)) (fun r2=>W.ite ((!r1)||(!r2)) (W.ret (0:Int)) (W.ite ((eq_Segment s1 t1)||((eq_Point s1.A t1.B)&&(eq_Point s1.B t1.A))) (W.ret (4:Int)) (W.ex fun n=>W.iter2 (ref03_Meets.l1 s1 t1 (ref03_Meets.c1 s1 t1)) n ([]:List Point) (0:Int)))))
theorem ref03_Meets.ok {s1:Segment} {t1:Segment} {Q:Int→Prop} (hF:ref03_Meets.F s1 t1 Q):Con Tryz.prog 49 [.tv kSegment s1,.tv kSegment t1] [] (fun ta rs'=>∃ (r:Int),Q r∧ta=.tv (kInt .i64) r∧rs'=[]):=by
 refine Con.i Tryz.func49 Tryz.ntmps49 R R (fun C=>?_)
 unfold ref03_Meets.F at hF
 refine At.seq (At.region (At.f R (jw R R R (ja R)) ?_))
 rintro _ _ ⟨g1,rfl,rfl⟩
 refine At.f R (jw R R R (ja R)) ?_
 rintro _ _ ⟨g2,rfl,rfl⟩
 refine At.d R R R R (jd (x:=(.tv (kInt .i64) (0:Int))) (ji _ _)) ?_
 refine At.done (At.vh (At.seq (At.seq (At.region (At.d R R R R (jc (ja R) 1 R (Sub.self kSegment) ty_39) ?_)))))
 replace hF:=W.vm hF
 refine At.f R (jn R R jp (jq R en_48 (jf (ja R) jg)) (ref03_Segment.ok hF) (by rintro _ _ ⟨r,_,rfl,_⟩;exact vl)) ?_
 rintro _ _ ⟨_,_,⟨r1,hF,rfl,rfl⟩,rfl,rfl⟩
 refine At.d R R R R (does_not (ja R)) ?_
 refine At.d R R R R (jb (x:=(.tv kBool (!r1))) (ja R)) ?_
 refine At.vj R R R R (jv R) R (fun hg1=>(jc (ja R) 0 R (Sub.self kSegment) ty_39)) ?_
 replace hF:=W.vm hF
 refine At.effG R R R R (jv R) hF (fun r=>.tv kBool r) (fun hg2 hF=>eff_of (jn R R jp (jq R en_48 (jf (jh R hg2) jg)) (ref03_Segment.ok hF) (by rintro _ _ ⟨r,_,rfl,_⟩;exact vl)) (by rintro _ _ ⟨_,_,⟨r,hF,rfl,rfl⟩,rfl,rfl⟩;exact ⟨r,hF,R,R⟩)) (fun r2 hF=>?_)
 refine At.vj R R R R (jv R) R (fun hg3=>(does_not (jh R hg3))) ?_
 refine At.d R R R R (jm (ja R) (jl _) (ja R) pick_or) ?_
 refine At.done (At.vh ?_)
 refine At.cond (ja R) (fun hb1=>?_) (fun hb1=>?_)
 ·replace hF:=W.ite_t hb1 hF
  refine At.seq (At.region (At.d R R R R (jd (x:=(.tv (kInt .i64) (0:Int))) (ji _ _)) ?_))
  refine At.done (At.vh (At.ret (At.vi ?_)))
  exact At.j rfl (rv_tmp rfl) [] rfl ⟨(0:Int),hF,rfl,rfl⟩
 ·replace hF:=W.ite_f hb1 hF
  refine At.skip (At.vh (At.seq (At.seq (At.region (At.d R R R R (jc (ja R) 1 R (Sub.self kSegment) ty_39) ?_)))))
  refine At.d R R R R (jc (ja R) 0 R (Sub.self kSegment) ty_39) ?_
  refine At.d R R R R (jk (ja R) (ja R) (bin_eq eqty_39)) ?_
  refine At.d R R R R (jb (x:=(.tv kBool (eq_Segment s1 t1))) (ja R)) ?_
  refine At.vj R R R R (jv R) R (fun hg4=>(je (ja R) fa_39_0)) ?_
  refine At.vj R R R R (jv R) R (fun hg5=>(jc (jh R hg5) 1 R Ja ty_37)) ?_
  refine At.vj R R R R (jv R) R (fun hg6=>(je (ja R) fa_39_1)) ?_
  refine At.vj R R R R (jv R) R (fun hg7=>(jc (jh R hg7) 0 R Jb ty_37)) ?_
  refine At.vj R R R R (jv R) R (fun hg8=>(jk (jh R hg8) (jh R hg8) (bin_eq eqty_37))) ?_
  refine At.vj R R R R (jv R) R (fun hg9=>(jb (x:=(.tv kBool (eq_Point s1.A t1.B))) (jh R hg9))) ?_
  refine At.vj R R R R (jt R) R (fun hg10=>(je (ja R) fa_39_1)) ?_
  refine At.vj R R R R (jt R) R (fun hg11=>(jc (jh R hg11) 1 R Jb ty_37)) ?_
  refine At.vj R R R R (jt R) R (fun hg12=>(je (ja R) fa_39_0)) ?_
  refine At.vj R R R R (jt R) R (fun hg13=>(jc (jh R hg13) 0 R Ja ty_37)) ?_
  refine At.vj R R R R (jt R) R (fun hg14=>(jk (jh R hg14) (jh R hg14) (bin_eq eqty_37))) ?_
  refine At.vj R R R R (jv R) R (fun hg15=>(jm (jh R hg15) (ja R) (jl _) (pick_andG (and_of hg15)))) ?_
  refine At.d R R R R (jm (ja R) (jl _) (ja R) pick_or) ?_
  refine At.done (At.vh ?_)
  refine At.cond (ja R) (fun hb2=>?_) (fun hb2=>?_)
  ·replace hF:=W.ite_t hb2 hF
   refine At.seq (At.region (At.d R R R R (jd (x:=(.tv (kInt .i64) (4:Int))) (ji _ _)) ?_))
   refine At.done (At.vh (At.ret (At.vi ?_)))
   exact At.j rfl (rv_tmp rfl) [] rfl ⟨(4:Int),hF,rfl,rfl⟩
  ·replace hF:=W.ite_f hb2 hF
   refine At.skip (At.vh (At.seq (At.region (At.d R R R R (je (ja R) fa_39_0) ?_))))
   refine At.d R R R R (jc (ja R) 1 R Ja ty_37) ?_
   refine At.d R R R R (je (ja R) fa_39_1) ?_
   refine At.d R R R R (jc (ja R) 1 R Jb ty_37) ?_
   refine At.d R R R R (je (ja R) fa_39_0) ?_
   refine At.d R R R R (jc (ja R) 0 R Ja ty_37) ?_
   refine At.d R R R R (je (ja R) fa_39_1) ?_
   refine At.d R R R R (jc (ja R) 0 R Jb ty_37) ?_
   refine At.f R (jy R R R (os:=[.tmp 36,.tmp 38,.tmp 40,.tmp 42]) R sl_68 (xs:=([s1.A,s1.B,t1.A,t1.B]:List Point)) (jf (ja R) (jf (ja R) (jf (ja R) (jf (ja R) jg)))) R R) ?_
   rintro _ _ ⟨v1,rfl,rfl⟩
   refine At.d R R R R (jd (x:=(.eq v1)) (ja R)) ?_
   refine At.done (At.vh (At.seq (At.region (At.d R R R R (jd (x:=(.eq (.slice none 0 0))) (opd_eq _)) ?_))))
   refine At.done (At.vh ?_)
   refine At.cut (fun rs L=>∃ (x6:(List Point)) (v11:Value),ref03_Meets.c1 s1 t1 x6 Q∧rs=[.box g1 39 kSegment s1,.box g2 39 kSegment t1,.row v11 37 kPoint x6]∧L=mkL [(2,(.eq (.pointer (some ⟨g1,0,none⟩)))),(3,(.eq (.pointer (some ⟨g2,0,none⟩)))),(6,(.eq v11))]) ?_ ?_
   ·refine At.seq (At.region (At.d R R R R (jd (x:=(.tv (kInt .i64) (0:Int))) (ji _ _)) ?_))
    refine At.done (At.vh (At.block ?_))
    refine At.nilrow 37 kPoint ?_
    obtain ⟨n2,hF⟩:=hF
    refine At.w [3,2,1,0] R [(2,(.eq (.pointer (some ⟨g1,0,none⟩)))),(3,(.eq (.pointer (some ⟨g2,0,none⟩)))),(5,(.eq v1)),(6,(.eq (.slice none 0 0))),(7,(.tv (kInt .i64) (0:Int)))] ⟨R,R,R,R,R,trivial⟩ ?_
    refine At.loop (fun m rs L=>∃ (x11:(List Point)) (v20:Value) (i6:Int),W.iter2 (ref03_Meets.l1 s1 t1 (ref03_Meets.c1 s1 t1)) m x11 i6 Q∧rs=[.box g1 39 kSegment s1,.box g2 39 kSegment t1,.row v1 37 kPoint ([s1.A,s1.B,t1.A,t1.B]:List Point),.row v20 37 kPoint x11]∧L=mkL [(2,(.eq (.pointer (some ⟨g1,0,none⟩)))),(3,(.eq (.pointer (some ⟨g2,0,none⟩)))),(5,(.eq v1)),(6,(.eq v20)),(7,(.tv (kInt .i64) i6))]) ?_ ?_ (m:=n2) ⟨([]:List Point),(.slice none 0 0),(0:Int),hF,R,R⟩
    ·rintro rs L ⟨_,_,_,hF,_,_⟩;exact hF
    ·rintro m1 _ _ ⟨x11,v20,i6,hF,rfl,rfl⟩
     replace hF:=W.iter2_s hF
     unfold ref03_Meets.l1 at hF
     refine At.seq (At.seq (At.region (At.d R R R R (jb (x:=(.tv (kInt .i64) i6)) (ja R)) ?_)))
     refine At.d R R R R (jk (ja R) (ji _ _) vd) ?_
     refine At.done (At.vh ?_)
     refine At.cond (ja R) (fun hb23=>?_) (fun hb23=>?_)
     ·replace hF:=W.ite_t hb23 hF
      refine At.skip (At.vh ?_)
      refine At.cut (fun rs L=>∃ (x12:(List Point)) (v23:Value),ref03_Meets.c2 i6 (W.iter2 (ref03_Meets.l1 s1 t1 (ref03_Meets.c1 s1 t1)) m1) x12 Q∧rs=[.box g1 39 kSegment s1,.box g2 39 kSegment t1,.row v1 37 kPoint ([s1.A,s1.B,t1.A,t1.B]:List Point),.row v23 37 kPoint x12]∧L=mkL [(2,(.eq (.pointer (some ⟨g1,0,none⟩)))),(3,(.eq (.pointer (some ⟨g2,0,none⟩)))),(5,(.eq v1)),(6,(.eq v23)),(7,(.tv (kInt .i64) i6))]) ?_ ?_
      ·refine At.block (At.seq (At.region (At.d R R R R (jd (x:=(.tv kBool false)) (jl _)) ?_)))
       refine At.done (At.vh ?_)
       refine At.cut (fun rs L=>∃ (twice24:Bool),ref03_Meets.c3 s1 t1 x11 i6 (ref03_Meets.c2 i6 (W.iter2 (ref03_Meets.l1 s1 t1 (ref03_Meets.c1 s1 t1)) m1)) twice24 Q∧rs=[.box g1 39 kSegment s1,.box g2 39 kSegment t1,.row v1 37 kPoint ([s1.A,s1.B,t1.A,t1.B]:List Point),.row v20 37 kPoint x11]∧L=mkL [(2,(.eq (.pointer (some ⟨g1,0,none⟩)))),(3,(.eq (.pointer (some ⟨g2,0,none⟩)))),(5,(.eq v1)),(6,(.eq v20)),(7,(.tv (kInt .i64) i6)),(8,(.tv kBool twice24))]) ?_ ?_
       ·refine At.seq (At.region (At.d R R R R (jd (x:=(.tv (kInt .i64) (0:Int))) (ji _ _)) ?_))
        refine At.done (At.vh (At.block ?_))
        obtain ⟨n1,hF⟩:=hF
        refine At.w [0,1,2,3] R [(2,(.eq (.pointer (some ⟨g1,0,none⟩)))),(3,(.eq (.pointer (some ⟨g2,0,none⟩)))),(5,(.eq v1)),(6,(.eq v20)),(7,(.tv (kInt .i64) i6)),(8,(.tv kBool false)),(9,(.tv (kInt .i64) (0:Int)))] ⟨R,R,R,R,R,R,R,trivial⟩ ?_
        refine At.loop (fun m rs L=>∃ (twice27:Bool) (k21:Int),W.iter2 (ref03_Meets.l2 s1 t1 x11 i6 (ref03_Meets.c3 s1 t1 x11 i6 (ref03_Meets.c2 i6 (W.iter2 (ref03_Meets.l1 s1 t1 (ref03_Meets.c1 s1 t1)) m1)))) m twice27 k21 Q∧rs=[.box g1 39 kSegment s1,.box g2 39 kSegment t1,.row v1 37 kPoint ([s1.A,s1.B,t1.A,t1.B]:List Point),.row v20 37 kPoint x11]∧L=mkL [(2,(.eq (.pointer (some ⟨g1,0,none⟩)))),(3,(.eq (.pointer (some ⟨g2,0,none⟩)))),(5,(.eq v1)),(6,(.eq v20)),(7,(.tv (kInt .i64) i6)),(8,(.tv kBool twice27)),(9,(.tv (kInt .i64) k21))]) ?_ ?_ (m:=n1) ⟨false,(0:Int),hF,R,R⟩
        ·rintro rs L ⟨_,_,hF,_,_⟩;exact hF
        ·rintro m2 _ _ ⟨twice27,k21,hF,rfl,rfl⟩
         replace hF:=W.iter2_s hF
         unfold ref03_Meets.l2 at hF
         refine At.seq (At.seq (At.region (At.d R R R R (jb (x:=(.tv (kInt .i64) k21)) (ja R)) ?_)))
         refine At.d R R R R (jb (x:=(.eq v20)) (ja R)) ?_
         refine At.d R R R R (does_len_row (ja R) 3 R Tryz.underlying68) ?_
         refine At.d R R R R (jk (ja R) (ja R) vd) ?_
         refine At.done (At.vh ?_)
         refine At.cond (ja R) (fun hb32=>?_) (fun hb32=>?_)
         ·replace hF:=W.ite_t hb32 hF
          refine At.skip (At.vh (At.seq (At.block ?_)))
          refine At.draw mixed [0,1,2,3] R [[],[],[],[]] (fun φ w hgd=>?_)
          obtain ⟨hq61,hF⟩:=hF
          obtain ⟨hq62,hF⟩:=hF
          refine AtH.take [0,1,2,3] hgd 0 R R R R (D':=#[Y,N,N,N,N,N,N,N,N,N,N,N,N]) (by kernel_rfl) (fun _ _ _ _ h=>h) R (jb (x:=(.tv kBool twice27)) (ja R)) ?_
          refine AtH.take [0,1,2,3] hgd 1 R R R R (D':=#[Y,Y,N,N,N,N,N,N,N,N,N,N,N]) (by kernel_rfl) (fun _ _ _ _ h=>h) R (jb (x:=(.tv kBool twice27)) (ja R)) ?_
          refine AtH.vk [0,1,2,3] hgd 2 R R R (jv R) R R (D':=#[Y,Y,Y,N,N,N,N,N,N,N,N,N,N]) (by kernel_rfl) (fun _ _ _ _ h=>h) R (fun hg448=>(jb (x:=(.eq v20)) (ja R))) ?_
          refine AtH.vk [0,1,2,3] hgd 3 R R R (jv R) R R (D':=#[Y,Y,Y,Y,N,N,N,N,N,N,N,N,N]) (by kernel_rfl) (fun _ _ _ _ h=>h) R (fun hg449=>(jb (x:=(.tv (kInt .i64) k21)) (ja R))) ?_
          refine AtH.vk [0,1,2,3] hgd 4 R R R (jv R) R R (D':=#[Y,Y,Y,Y,Y,N,N,N,N,N,N,N,N]) (by kernel_rfl) (fun _ _ _ _ h=>h) R (fun hg450=>(does_idx_row (jh R hg450) 3 R (jh R hg450) Tryz.underlying68 ty_37 (hq61 hg450))) ?_
          refine AtH.vk [0,1,2,3] hgd 5 R R R (jv R) R R (D':=#[Y,Y,Y,Y,Y,Y,N,N,N,N,N,N,N]) (by kernel_rfl) (fun _ _ _ _ h=>h) R (fun hg451=>(Jc (jh R hg451) 3 R k21 0 R zPoint (hq61 hg451) (Sub.self kPoint) ty_37)) ?_
          refine AtH.vk [0,1,2,3] hgd 6 R R R (jv R) R R (D':=#[Y,Y,Y,Y,Y,Y,Y,N,N,N,N,N,N]) (by kernel_rfl) (fun _ _ _ _ h=>h) R (fun hg452=>(jb (x:=(.eq v1)) (ja R))) ?_
          refine AtH.vk [0,1,2,3] hgd 7 R R R (jv R) R R (D':=#[Y,Y,Y,Y,Y,Y,Y,Y,N,N,N,N,N]) (by kernel_rfl) (fun _ _ _ _ h=>h) R (fun hg453=>(jb (x:=(.tv (kInt .i64) i6)) (ja R))) ?_
          refine AtH.vk [0,1,2,3] hgd 8 R R R (jv R) R R (D':=#[Y,Y,Y,Y,Y,Y,Y,Y,Y,N,N,N,N]) (by kernel_rfl) (fun _ _ _ _ h=>h) R (fun hg454=>(does_idx_row (jh R hg454) 2 R (jh R hg454) Tryz.underlying68 ty_37 (hq62 hg454))) ?_
          refine AtH.vk [0,1,2,3] hgd 9 R R R (jv R) R R (D':=#[Y,Y,Y,Y,Y,Y,Y,Y,Y,Y,N,N,N]) (by kernel_rfl) (fun _ _ _ _ h=>h) R (fun hg455=>(Jc (jh R hg455) 2 R i6 0 R zPoint (hq62 hg455) (Sub.self kPoint) ty_37)) ?_
          refine AtH.vk [0,1,2,3] hgd 10 R R R (jv R) R R (D':=#[Y,Y,Y,Y,Y,Y,Y,Y,Y,Y,Y,N,N]) (by kernel_rfl) (fun _ _ _ _ h=>h) R (fun hg456=>(jk (jh R hg456) (jh R hg456) (bin_eq eqty_37))) ?_
          refine AtH.take [0,1,2,3] hgd 11 R R R R (D':=#[Y,Y,Y,Y,Y,Y,Y,Y,Y,Y,Y,Y,N]) (by kernel_rfl) (fun _ _ _ _ h=>h) R (jm (ja R) (jl _) (ja R) pick_or) ?_
          refine AtH.take [0,1,2,3] hgd 12 R R R R (D':=#[Y,Y,Y,Y,Y,Y,Y,Y,Y,Y,Y,Y,Y]) (by kernel_rfl) (fun _ _ _ _ h=>h) R (jd (x:=(.tv kBool (twice27||(eq_Point (rd zPoint x11 k21) (rd zPoint ([s1.A,s1.B,t1.A,t1.B]:List Point) i6))))) (ja R)) ?_
          refine AtH.done (by kernel_rfl) ?_
          refine At.n ?_
          refine At.vh (At.region (At.d R R R R (jb (x:=(.tv (kInt .i64) k21)) (ja R)) ?_))
          refine At.d R R R R (jk (ja R) (ji _ _) vc) ?_
          refine At.d R R R R (jd (x:=(.tv (kInt .i64) (w64 (k21+(1:Int))))) (ja R)) ?_
          refine At.done (At.vh ?_)
          refine At.w [0,1,2,3] R [(2,(.eq (.pointer (some ⟨g1,0,none⟩)))),(3,(.eq (.pointer (some ⟨g2,0,none⟩)))),(5,(.eq v1)),(6,(.eq v20)),(7,(.tv (kInt .i64) i6)),(8,(.tv kBool (twice27||(eq_Point (rd zPoint x11 k21) (rd zPoint ([s1.A,s1.B,t1.A,t1.B]:List Point) i6))))),(9,(.tv (kInt .i64) (w64 (k21+(1:Int)))))] ⟨R,R,R,R,R,R,R,trivial⟩ (At.r ⟨(twice27||(eq_Point (rd zPoint x11 k21) (rd zPoint ([s1.A,s1.B,t1.A,t1.B]:List Point) i6))),(w64 (k21+(1:Int))),hF,R,R⟩)
         ·replace hF:=W.ite_f hb32 hF
          refine At.exit ?_
          refine At.x (At.x ?_)
          refine At.h ?_
          refine At.vh ?_
          refine At.w [0,1,2,3] R [(2,(.eq (.pointer (some ⟨g1,0,none⟩)))),(3,(.eq (.pointer (some ⟨g2,0,none⟩)))),(5,(.eq v1)),(6,(.eq v20)),(7,(.tv (kInt .i64) i6)),(8,(.tv kBool twice27))] ⟨R,R,R,R,R,R,trivial⟩ (At.r ⟨twice27,hF,R,R⟩)
       ·rintro _ _ ⟨twice24,hF,rfl,rfl⟩
        unfold ref03_Meets.c3 at hF
        refine At.seq ?_
        refine At.draw mixed [0,1,2,3] R [[],[],[],[]] (fun φ w hgd=>?_)
        obtain ⟨hq52,hF⟩:=hF
        replace hF:=W.vm hF
        refine AtH.take [0,1,2,3] hgd 0 R R R R (D':=#[Y,N,N,N,N,N,N,N,N,N,N,N,N,N,N,N,N,N]) (by kernel_rfl) (fun _ _ _ _ h=>h) R (jb (x:=(.tv kBool twice24)) (ja R)) ?_
        refine AtH.take [0,1,2,3] hgd 1 R R R R (D':=#[Y,Y,N,N,N,N,N,N,N,N,N,N,N,N,N,N,N,N]) (by kernel_rfl) (fun _ _ _ _ h=>h) R (does_not (ja R)) ?_
        refine AtH.take [0,1,2,3] hgd 2 R R R R (D':=#[Y,Y,Y,N,N,N,N,N,N,N,N,N,N,N,N,N,N,N]) (by kernel_rfl) (fun _ _ _ _ h=>h) R (jb (x:=(.tv kBool (!twice24))) (ja R)) ?_
        refine AtH.vk [0,1,2,3] hgd 3 R R R (ju R) R R (D':=#[Y,Y,Y,Y,N,N,N,N,N,N,N,N,N,N,N,N,N,N]) (by kernel_rfl) (fun _ _ _ _ h=>h) R (fun hg391=>(jc (ja R) 0 R (Sub.self kSegment) ty_39)) ?_
        refine AtH.vk [0,1,2,3] hgd 4 R R R (ju R) R R (D':=#[Y,Y,Y,Y,Y,N,N,N,N,N,N,N,N,N,N,N,N,N]) (by kernel_rfl) (fun _ _ _ _ h=>h) R (fun hg392=>(jb (x:=(.eq v1)) (ja R))) ?_
        refine AtH.vk [0,1,2,3] hgd 5 R R R (ju R) R R (D':=#[Y,Y,Y,Y,Y,Y,N,N,N,N,N,N,N,N,N,N,N,N]) (by kernel_rfl) (fun _ _ _ _ h=>h) R (fun hg393=>(jb (x:=(.tv (kInt .i64) i6)) (ja R))) ?_
        refine AtH.vk [0,1,2,3] hgd 6 R R R (ju R) R R (D':=#[Y,Y,Y,Y,Y,Y,Y,N,N,N,N,N,N,N,N,N,N,N]) (by kernel_rfl) (fun _ _ _ _ h=>h) R (fun hg394=>(does_idx_row (jh R hg394) 2 R (jh R hg394) Tryz.underlying68 ty_37 (hq52 hg394))) ?_
        refine AtH.vk [0,1,2,3] hgd 7 R R R (ju R) R R (D':=#[Y,Y,Y,Y,Y,Y,Y,Y,N,N,N,N,N,N,N,N,N,N]) (by kernel_rfl) (fun _ _ _ _ h=>h) R (fun hg395=>(Jc (jh R hg395) 2 R i6 0 R zPoint (hq52 hg395) (Sub.self kPoint) ty_37)) ?_
        refine AtH.all1 8 (by kernel_rfl) ?_
        refine AtH.effG [(0,0),(1,1),(2,2),(3,3)] R R R R R R R (ju R) (D':=#[Y,Y,Y,Y,Y,Y,Y,Y,Y,N,N,N,N,N,N,N,N,N]) (by kernel_rfl) (by kernel_rfl) hF (fun r=>.tv kBool r) (fun _=>vl) (fun hg396 hF=>eff_of (jn R R jp (jq R en_77 (jf (jh R hg396) (jf (jh R hg396) jg))) (ref03_On.ok hF) (by rintro _ _ ⟨r,_,rfl,_⟩;exact vl)) (by rintro _ _ ⟨_,_,⟨r,hF,rfl,rfl⟩,rfl,rfl⟩;exact ⟨r,hF,R,R⟩)) (fun r19 hF=>?_)
        obtain ⟨hq53,hF⟩:=hF
        replace hF:=W.vm hF
        refine AtH.take [0,1,2,3] hgd 9 R R R R (D':=#[Y,Y,Y,Y,Y,Y,Y,Y,Y,Y,N,N,N,N,N,N,N,N]) (by kernel_rfl) (fun _ _ _ _ h=>h) R (jm (ja R) (ja R) (jl _) ve) ?_
        refine AtH.take [0,1,2,3] hgd 10 R R R R (D':=#[Y,Y,Y,Y,Y,Y,Y,Y,Y,Y,Y,N,N,N,N,N,N,N]) (by kernel_rfl) (fun _ _ _ _ h=>h) R (jb (x:=(.tv kBool ((!twice24)&&r19))) (ja R)) ?_
        refine AtH.vk [0,1,2,3] hgd 11 R R R (ju R) R R (D':=#[Y,Y,Y,Y,Y,Y,Y,Y,Y,Y,Y,Y,N,N,N,N,N,N]) (by kernel_rfl) (fun _ _ _ _ h=>h) R (fun hg397=>(jc (ja R) 1 R (Sub.self kSegment) ty_39)) ?_
        refine AtH.vk [0,1,2,3] hgd 12 R R R (ju R) R R (D':=#[Y,Y,Y,Y,Y,Y,Y,Y,Y,Y,Y,Y,Y,N,N,N,N,N]) (by kernel_rfl) (fun _ _ _ _ h=>h) R (fun hg398=>(jb (x:=(.eq v1)) (ja R))) ?_
        refine AtH.vk [0,1,2,3] hgd 13 R R R (ju R) R R (D':=#[Y,Y,Y,Y,Y,Y,Y,Y,Y,Y,Y,Y,Y,Y,N,N,N,N]) (by kernel_rfl) (fun _ _ _ _ h=>h) R (fun hg399=>(jb (x:=(.tv (kInt .i64) i6)) (ja R))) ?_
        refine AtH.vk [0,1,2,3] hgd 14 R R R (ju R) R R (D':=#[Y,Y,Y,Y,Y,Y,Y,Y,Y,Y,Y,Y,Y,Y,Y,N,N,N]) (by kernel_rfl) (fun _ _ _ _ h=>h) R (fun hg400=>(does_idx_row (jh R hg400) 2 R (jh R hg400) Tryz.underlying68 ty_37 (hq53 hg400))) ?_
        refine AtH.vk [0,1,2,3] hgd 15 R R R (ju R) R R (D':=#[Y,Y,Y,Y,Y,Y,Y,Y,Y,Y,Y,Y,Y,Y,Y,Y,N,N]) (by kernel_rfl) (fun _ _ _ _ h=>h) R (fun hg401=>(Jc (jh R hg401) 2 R i6 0 R zPoint (hq53 hg401) (Sub.self kPoint) ty_37)) ?_
        refine AtH.all1 16 (by kernel_rfl) ?_
        refine AtH.effG [(0,0),(1,1),(2,2),(3,3)] R R R R R R R (ju R) (D':=#[Y,Y,Y,Y,Y,Y,Y,Y,Y,Y,Y,Y,Y,Y,Y,Y,Y,N]) (by kernel_rfl) (by kernel_rfl) hF (fun r=>.tv kBool r) (fun _=>vl) (fun hg402 hF=>eff_of (jn R R jp (jq R en_77 (jf (jh R hg402) (jf (jh R hg402) jg))) (ref03_On.ok hF) (by rintro _ _ ⟨r,_,rfl,_⟩;exact vl)) (by rintro _ _ ⟨_,_,⟨r,hF,rfl,rfl⟩,rfl,rfl⟩;exact ⟨r,hF,R,R⟩)) (fun r20 hF=>?_)
        refine AtH.take [0,1,2,3] hgd 17 R R R R (D':=#[Y,Y,Y,Y,Y,Y,Y,Y,Y,Y,Y,Y,Y,Y,Y,Y,Y,Y]) (by kernel_rfl) (fun _ _ _ _ h=>h) R (jm (ja R) (ja R) (jl _) ve) ?_
        refine AtH.done (by kernel_rfl) ?_
        refine At.vh ?_
        refine At.cond (ja R) (fun hb29=>?_) (fun hb29=>?_)
        ·replace hF:=W.ite_t hb29 hF
         refine At.region (At.d R R R R (jb (x:=(.eq v20)) (ja R)) ?_)
         refine At.d R R R R (jb (x:=(.eq v1)) (ja R)) ?_
         refine At.d R R R R (jb (x:=(.tv (kInt .i64) i6)) (ja R)) ?_
         obtain ⟨hq54,hF⟩:=hF
         refine At.d R R R R (does_idx_row (ja R) 2 R (ja R) Tryz.underlying68 ty_37 hq54) ?_
         obtain ⟨hq55,hF⟩:=hF
         refine At.d R R R R (Jc (ja R) 2 R i6 0 R zPoint hq55 (Sub.self kPoint) ty_37) ?_
         refine At.f R (jy R R R (os:=[.tmp 88]) R sl_68 (xs:=([(rd zPoint ([s1.A,s1.B,t1.A,t1.B]:List Point) i6)]:List Point)) (jf (ja R) jg) R R) ?_
         rintro _ _ ⟨v24,rfl,rfl⟩
         obtain ⟨hq56,hF⟩:=hF
         refine At.f R (eff_append_row R R R 4 0 R R (ja R) (ja R) sl_68 hq56) ?_
         rintro _ _ ⟨v25,rfl,rfl⟩
         refine At.d R R R R (jd (x:=(.eq v25)) (ja R)) ?_
         refine At.done ?_
         refine At.n ?_
         refine At.vh ?_
         refine At.w [1,2,3,4] R [(2,(.eq (.pointer (some ⟨g1,0,none⟩)))),(3,(.eq (.pointer (some ⟨g2,0,none⟩)))),(5,(.eq v1)),(6,(.eq v25)),(7,(.tv (kInt .i64) i6))] ⟨R,R,R,R,R,trivial⟩ (At.r ⟨(x11++([(rd zPoint ([s1.A,s1.B,t1.A,t1.B]:List Point) i6)]:List Point)),v25,hF,R,R⟩)
        ·replace hF:=W.ite_f hb29 hF
         refine At.skip ?_
         refine At.n ?_
         refine At.vh ?_
         refine At.w [0,1,2,3] R [(2,(.eq (.pointer (some ⟨g1,0,none⟩)))),(3,(.eq (.pointer (some ⟨g2,0,none⟩)))),(5,(.eq v1)),(6,(.eq v20)),(7,(.tv (kInt .i64) i6))] ⟨R,R,R,R,R,trivial⟩ (At.r ⟨x11,v20,hF,R,R⟩)
      ·rintro _ _ ⟨x12,v23,hF,rfl,rfl⟩
       unfold ref03_Meets.c2 at hF
       refine At.region (At.d R R R R (jb (x:=(.tv (kInt .i64) i6)) (ja R)) ?_)
       refine At.d R R R R (jk (ja R) (ji _ _) vc) ?_
       refine At.d R R R R (jd (x:=(.tv (kInt .i64) (w64 (i6+(1:Int))))) (ja R)) ?_
       refine At.done (At.vh ?_)
       refine At.w [0,1,2,3] R [(2,(.eq (.pointer (some ⟨g1,0,none⟩)))),(3,(.eq (.pointer (some ⟨g2,0,none⟩)))),(5,(.eq v1)),(6,(.eq v23)),(7,(.tv (kInt .i64) (w64 (i6+(1:Int)))))] ⟨R,R,R,R,R,trivial⟩ (At.r ⟨x12,v23,(w64 (i6+(1:Int))),hF,R,R⟩)
     ·replace hF:=W.ite_f hb23 hF
      refine At.exit ?_
      refine At.x (At.x ?_)
      refine At.h ?_
      refine At.vh ?_
      refine At.w [0,1,3] R [(2,(.eq (.pointer (some ⟨g1,0,none⟩)))),(3,(.eq (.pointer (some ⟨g2,0,none⟩)))),(6,(.eq v20))] ⟨R,R,R,trivial⟩ (At.r ⟨x11,v20,hF,R,R⟩)
   ·rintro _ _ ⟨x6,v11,hF,rfl,rfl⟩
    unfold ref03_Meets.c1 at hF
    refine At.seq (At.seq (At.region (At.d R R R R (jb (x:=(.eq v11)) (ja R)) ?_)))
    refine At.d R R R R (does_len_row (ja R) 2 R Tryz.underlying68) ?_
    refine At.d R R R R (jk (ja R) (ji _ _) bin_gtr) ?_
    refine At.done (At.vh ?_)
    refine At.cond (ja R) (fun hb11=>?_) (fun hb11=>?_)
    ·replace hF:=W.ite_t hb11 hF
     refine At.seq (At.region (At.d R R R R (jd (x:=(.tv (kInt .i64) (5:Int))) (ji _ _)) ?_))
     refine At.done (At.vh (At.ret (At.vi ?_)))
     exact At.j rfl (rv_tmp rfl) [] rfl ⟨(5:Int),hF,rfl,rfl⟩
    ·replace hF:=W.ite_f hb11 hF
     refine At.skip (At.vh (At.seq (At.seq (At.region (At.d R R R R (jb (x:=(.eq v11)) (ja R)) ?_)))))
     refine At.d R R R R (does_len_row (ja R) 2 R Tryz.underlying68) ?_
     refine At.d R R R R (jk (ja R) (ji _ _) bin_eql) ?_
     refine At.done (At.vh ?_)
     refine At.cond (ja R) (fun hb12=>?_) (fun hb12=>?_)
     ·replace hF:=W.ite_t hb12 hF
      refine At.seq (At.seq ?_)
      refine At.draw mixed [0,1,2] R [[],[],[]] (fun φ w hgd=>?_)
      obtain ⟨hq19,hF⟩:=hF
      replace hF:=W.vm hF
      refine AtH.take [0,1,2] hgd 0 R R R R (D':=#[Y,N,N,N,N,N,N,N,N,N,N,N]) (by kernel_rfl) (fun _ _ _ _ h=>h) R (jc (ja R) 0 R (Sub.self kSegment) ty_39) ?_
      refine AtH.take [0,1,2] hgd 1 R R R R (D':=#[Y,Y,N,N,N,N,N,N,N,N,N,N]) (by kernel_rfl) (fun _ _ _ _ h=>h) R (jb (x:=(.eq v11)) (ja R)) ?_
      refine AtH.take [0,1,2] hgd 2 R R R R (D':=#[Y,Y,Y,N,N,N,N,N,N,N,N,N]) (by kernel_rfl) (fun _ _ _ _ h=>h) R (does_idx_row (ja R) 2 R (ji _ _) Tryz.underlying68 ty_37 hq19) ?_
      refine AtH.take [0,1,2] hgd 3 R R R R (D':=#[Y,Y,Y,Y,N,N,N,N,N,N,N,N]) (by kernel_rfl) (fun _ _ _ _ h=>h) R (Jc (ja R) 2 R (0:Int) 0 R zPoint hq19 (Sub.self kPoint) ty_37) ?_
      refine AtH.all1 4 (by kernel_rfl) ?_
      refine AtH.f [(0,0),(1,1),(2,2)] R R R R R R (jn R R jp (jq R en_78 (jf (ja R) (jf (ja R) jg))) (ref03_end.ok hF) (by rintro _ _ ⟨r,_,rfl,_⟩;exact vl)) (D':=#[Y,Y,Y,Y,Y,N,N,N,N,N,N,N]) (by kernel_rfl) (by kernel_rfl) ?_
      rintro _ _ ⟨_,_,⟨r7,hF,rfl,rfl⟩,rfl,rfl⟩
      refine ⟨_,.inr ⟨R,vl⟩,?_⟩
      obtain ⟨hq20,hF⟩:=hF
      replace hF:=W.vm hF
      refine AtH.take [0,1,2] hgd 5 R R R R (D':=#[Y,Y,Y,Y,Y,Y,N,N,N,N,N,N]) (by kernel_rfl) (fun _ _ _ _ h=>h) R (jb (x:=(.tv kBool r7)) (ja R)) ?_
      refine AtH.vk [0,1,2] hgd 6 R R R (ju R) R R (D':=#[Y,Y,Y,Y,Y,Y,Y,N,N,N,N,N]) (by kernel_rfl) (fun _ _ _ _ h=>h) R (fun hg136=>(jc (ja R) 1 R (Sub.self kSegment) ty_39)) ?_
      refine AtH.vk [0,1,2] hgd 7 R R R (ju R) R R (D':=#[Y,Y,Y,Y,Y,Y,Y,Y,N,N,N,N]) (by kernel_rfl) (fun _ _ _ _ h=>h) R (fun hg137=>(jb (x:=(.eq v11)) (ja R))) ?_
      refine AtH.vk [0,1,2] hgd 8 R R R (ju R) R R (D':=#[Y,Y,Y,Y,Y,Y,Y,Y,Y,N,N,N]) (by kernel_rfl) (fun _ _ _ _ h=>h) R (fun hg138=>(does_idx_row (jh R hg138) 2 R (ji _ _) Tryz.underlying68 ty_37 (hq20 hg138))) ?_
      refine AtH.vk [0,1,2] hgd 9 R R R (ju R) R R (D':=#[Y,Y,Y,Y,Y,Y,Y,Y,Y,Y,N,N]) (by kernel_rfl) (fun _ _ _ _ h=>h) R (fun hg139=>(Jc (jh R hg139) 2 R (0:Int) 0 R zPoint (hq20 hg139) (Sub.self kPoint) ty_37)) ?_
      refine AtH.all1 10 (by kernel_rfl) ?_
      refine AtH.effG [(0,0),(1,1),(2,2)] R R R R R R R (ju R) (D':=#[Y,Y,Y,Y,Y,Y,Y,Y,Y,Y,Y,N]) (by kernel_rfl) (by kernel_rfl) hF (fun r=>.tv kBool r) (fun _=>vl) (fun hg140 hF=>eff_of (jn R R jp (jq R en_78 (jf (jh R hg140) (jf (jh R hg140) jg))) (ref03_end.ok hF) (by rintro _ _ ⟨r,_,rfl,_⟩;exact vl)) (by rintro _ _ ⟨_,_,⟨r,hF,rfl,rfl⟩,rfl,rfl⟩;exact ⟨r,hF,R,R⟩)) (fun r8 hF=>?_)
      refine AtH.take [0,1,2] hgd 11 R R R R (D':=#[Y,Y,Y,Y,Y,Y,Y,Y,Y,Y,Y,Y]) (by kernel_rfl) (fun _ _ _ _ h=>h) R (jm (ja R) (ja R) (jl _) ve) ?_
      refine AtH.done (by kernel_rfl) ?_
      refine At.vh ?_
      refine At.cond (ja R) (fun hb13=>?_) (fun hb13=>?_)
      ·replace hF:=W.ite_t hb13 hF
       refine At.seq (At.region (At.d R R R R (jd (x:=(.tv (kInt .i64) (1:Int))) (ji _ _)) ?_))
       refine At.done (At.vh (At.ret (At.vi (At.vi ?_))))
       exact At.j rfl (rv_tmp rfl) [] rfl ⟨(1:Int),hF,rfl,rfl⟩
      ·replace hF:=W.ite_f hb13 hF
       refine At.skip (At.vh (At.seq (At.region (At.d R R R R (jd (x:=(.tv (kInt .i64) (2:Int))) (ji _ _)) ?_))))
       refine At.done (At.vh (At.ret (At.vi ?_)))
       exact At.j rfl (rv_tmp rfl) [] rfl ⟨(2:Int),hF,rfl,rfl⟩
     ·replace hF:=W.ite_f hb12 hF
      refine At.skip (At.vh (At.seq (At.seq ?_)))
      refine At.draw mixed [0,1,2] R [[],[],[]] (fun φ w hgd=>?_)
      replace hF:=W.vm hF
      refine AtH.take [0,1,2] hgd 0 R R R R (D':=#[Y,N,N,N,N,N,N,N,N,N,N,N,N,N,N,N,N,N,N,N,N,N,N,N,N,N,N,N,N,N,N,N,N,N]) (by kernel_rfl) (fun _ _ _ _ h=>h) R (je (ja R) fa_39_0) ?_
      refine AtH.take [0,1,2] hgd 1 R R R R (D':=#[Y,Y,N,N,N,N,N,N,N,N,N,N,N,N,N,N,N,N,N,N,N,N,N,N,N,N,N,N,N,N,N,N,N,N]) (by kernel_rfl) (fun _ _ _ _ h=>h) R (jc (ja R) 0 R Ja ty_37) ?_
      refine AtH.take [0,1,2] hgd 2 R R R R (D':=#[Y,Y,Y,N,N,N,N,N,N,N,N,N,N,N,N,N,N,N,N,N,N,N,N,N,N,N,N,N,N,N,N,N,N,N]) (by kernel_rfl) (fun _ _ _ _ h=>h) R (je (ja R) fa_39_1) ?_
      refine AtH.take [0,1,2] hgd 3 R R R R (D':=#[Y,Y,Y,Y,N,N,N,N,N,N,N,N,N,N,N,N,N,N,N,N,N,N,N,N,N,N,N,N,N,N,N,N,N,N]) (by kernel_rfl) (fun _ _ _ _ h=>h) R (jc (ja R) 0 R Jb ty_37) ?_
      refine AtH.take [0,1,2] hgd 4 R R R R (D':=#[Y,Y,Y,Y,Y,N,N,N,N,N,N,N,N,N,N,N,N,N,N,N,N,N,N,N,N,N,N,N,N,N,N,N,N,N]) (by kernel_rfl) (fun _ _ _ _ h=>h) R (je (ja R) fa_39_0) ?_
      refine AtH.take [0,1,2] hgd 5 R R R R (D':=#[Y,Y,Y,Y,Y,Y,N,N,N,N,N,N,N,N,N,N,N,N,N,N,N,N,N,N,N,N,N,N,N,N,N,N,N,N]) (by kernel_rfl) (fun _ _ _ _ h=>h) R (jc (ja R) 1 R Ja ty_37) ?_
      refine AtH.take [0,1,2] hgd 7 R R R R (D':=#[Y,Y,Y,Y,Y,Y,N,Y,N,N,N,N,N,N,N,N,N,N,N,N,N,N,N,N,N,N,N,N,N,N,N,N,N,N]) (by kernel_rfl) (fun _ _ _ _ h=>h) R (je (ja R) fa_39_0) ?_
      refine AtH.take [0,1,2] hgd 8 R R R R (D':=#[Y,Y,Y,Y,Y,Y,N,Y,Y,N,N,N,N,N,N,N,N,N,N,N,N,N,N,N,N,N,N,N,N,N,N,N,N,N]) (by kernel_rfl) (fun _ _ _ _ h=>h) R (jc (ja R) 0 R Ja ty_37) ?_
      refine AtH.take [0,1,2] hgd 9 R R R R (D':=#[Y,Y,Y,Y,Y,Y,N,Y,Y,Y,N,N,N,N,N,N,N,N,N,N,N,N,N,N,N,N,N,N,N,N,N,N,N,N]) (by kernel_rfl) (fun _ _ _ _ h=>h) R (je (ja R) fa_39_1) ?_
      refine AtH.take [0,1,2] hgd 10 R R R R (D':=#[Y,Y,Y,Y,Y,Y,N,Y,Y,Y,Y,N,N,N,N,N,N,N,N,N,N,N,N,N,N,N,N,N,N,N,N,N,N,N]) (by kernel_rfl) (fun _ _ _ _ h=>h) R (jc (ja R) 0 R Jb ty_37) ?_
      refine AtH.take [0,1,2] hgd 11 R R R R (D':=#[Y,Y,Y,Y,Y,Y,N,Y,Y,Y,Y,Y,N,N,N,N,N,N,N,N,N,N,N,N,N,N,N,N,N,N,N,N,N,N]) (by kernel_rfl) (fun _ _ _ _ h=>h) R (je (ja R) fa_39_1) ?_
      refine AtH.take [0,1,2] hgd 12 R R R R (D':=#[Y,Y,Y,Y,Y,Y,N,Y,Y,Y,Y,Y,Y,N,N,N,N,N,N,N,N,N,N,N,N,N,N,N,N,N,N,N,N,N]) (by kernel_rfl) (fun _ _ _ _ h=>h) R (jc (ja R) 1 R Jb ty_37) ?_
      refine AtH.all1 6 (by kernel_rfl) ?_
      refine AtH.f [(0,0),(1,1),(2,2)] R R R R R R (jn R R jp (jq R en_79 (jf (ja R) (jf (ja R) (jf (ja R) jg)))) (ref03_Orient.ok hF) (by rintro _ _ ⟨r,_,rfl,_⟩;exact flat_int)) (D':=#[Y,Y,Y,Y,Y,Y,Y,Y,Y,Y,Y,Y,Y,N,N,N,N,N,N,N,N,N,N,N,N,N,N,N,N,N,N,N,N,N]) (by kernel_rfl) (by kernel_rfl) ?_
      rintro _ _ ⟨_,_,⟨r9,hF,rfl,rfl⟩,rfl,rfl⟩
      refine ⟨_,.inr ⟨R,flat_int⟩,?_⟩
      replace hF:=W.vm hF
      refine AtH.all1 13 (by kernel_rfl) ?_
      refine AtH.f [(0,0),(1,1),(2,2)] R R R R R R (jn R R jp (jq R en_79 (jf (ja R) (jf (ja R) (jf (ja R) jg)))) (ref03_Orient.ok hF) (by rintro _ _ ⟨r,_,rfl,_⟩;exact flat_int)) (D':=#[Y,Y,Y,Y,Y,Y,Y,Y,Y,Y,Y,Y,Y,Y,N,N,N,N,N,N,N,N,N,N,N,N,N,N,N,N,N,N,N,N]) (by kernel_rfl) (by kernel_rfl) ?_
      rintro _ _ ⟨_,_,⟨r10,hF,rfl,rfl⟩,rfl,rfl⟩
      refine ⟨_,.inr ⟨R,flat_int⟩,?_⟩
      replace hF:=W.vm hF
      refine AtH.take [0,1,2] hgd 14 R R R R (D':=#[Y,Y,Y,Y,Y,Y,Y,Y,Y,Y,Y,Y,Y,Y,Y,N,N,N,N,N,N,N,N,N,N,N,N,N,N,N,N,N,N,N]) (by kernel_rfl) (fun _ _ _ _ h=>h) R (jk (ja R) (ja R) bin_mul) ?_
      refine AtH.take [0,1,2] hgd 15 R R R R (D':=#[Y,Y,Y,Y,Y,Y,Y,Y,Y,Y,Y,Y,Y,Y,Y,Y,N,N,N,N,N,N,N,N,N,N,N,N,N,N,N,N,N,N]) (by kernel_rfl) (fun _ _ _ _ h=>h) R (jk (ja R) (ji _ _) vd) ?_
      refine AtH.take [0,1,2] hgd 16 R R R R (D':=#[Y,Y,Y,Y,Y,Y,Y,Y,Y,Y,Y,Y,Y,Y,Y,Y,Y,N,N,N,N,N,N,N,N,N,N,N,N,N,N,N,N,N]) (by kernel_rfl) (fun _ _ _ _ h=>h) R (jb (x:=(.tv kBool (decide ((w64 (r9*r10))<(0:Int))))) (ja R)) ?_
      refine AtH.vk [0,1,2] hgd 17 R R R (ju R) R R (D':=#[Y,Y,Y,Y,Y,Y,Y,Y,Y,Y,Y,Y,Y,Y,Y,Y,Y,Y,N,N,N,N,N,N,N,N,N,N,N,N,N,N,N,N]) (by kernel_rfl) (fun _ _ _ _ h=>h) R (fun hg155=>(je (ja R) fa_39_0)) ?_
      refine AtH.vk [0,1,2] hgd 18 R R R (ju R) R R (D':=#[Y,Y,Y,Y,Y,Y,Y,Y,Y,Y,Y,Y,Y,Y,Y,Y,Y,Y,Y,N,N,N,N,N,N,N,N,N,N,N,N,N,N,N]) (by kernel_rfl) (fun _ _ _ _ h=>h) R (fun hg156=>(jc (jh R hg156) 1 R Ja ty_37)) ?_
      refine AtH.vk [0,1,2] hgd 19 R R R (ju R) R R (D':=#[Y,Y,Y,Y,Y,Y,Y,Y,Y,Y,Y,Y,Y,Y,Y,Y,Y,Y,Y,Y,N,N,N,N,N,N,N,N,N,N,N,N,N,N]) (by kernel_rfl) (fun _ _ _ _ h=>h) R (fun hg157=>(je (ja R) fa_39_1)) ?_
      refine AtH.vk [0,1,2] hgd 20 R R R (ju R) R R (D':=#[Y,Y,Y,Y,Y,Y,Y,Y,Y,Y,Y,Y,Y,Y,Y,Y,Y,Y,Y,Y,Y,N,N,N,N,N,N,N,N,N,N,N,N,N]) (by kernel_rfl) (fun _ _ _ _ h=>h) R (fun hg158=>(jc (jh R hg158) 1 R Jb ty_37)) ?_
      refine AtH.vk [0,1,2] hgd 21 R R R (ju R) R R (D':=#[Y,Y,Y,Y,Y,Y,Y,Y,Y,Y,Y,Y,Y,Y,Y,Y,Y,Y,Y,Y,Y,Y,N,N,N,N,N,N,N,N,N,N,N,N]) (by kernel_rfl) (fun _ _ _ _ h=>h) R (fun hg159=>(je (ja R) fa_39_0)) ?_
      refine AtH.vk [0,1,2] hgd 22 R R R (ju R) R R (D':=#[Y,Y,Y,Y,Y,Y,Y,Y,Y,Y,Y,Y,Y,Y,Y,Y,Y,Y,Y,Y,Y,Y,Y,N,N,N,N,N,N,N,N,N,N,N]) (by kernel_rfl) (fun _ _ _ _ h=>h) R (fun hg160=>(jc (jh R hg160) 0 R Ja ty_37)) ?_
      refine AtH.vk [0,1,2] hgd 24 R R R (ju R) R R (D':=#[Y,Y,Y,Y,Y,Y,Y,Y,Y,Y,Y,Y,Y,Y,Y,Y,Y,Y,Y,Y,Y,Y,Y,N,Y,N,N,N,N,N,N,N,N,N]) (by kernel_rfl) (fun _ _ _ _ h=>h) R (fun hg161=>(je (ja R) fa_39_0)) ?_
      refine AtH.vk [0,1,2] hgd 25 R R R (ju R) R R (D':=#[Y,Y,Y,Y,Y,Y,Y,Y,Y,Y,Y,Y,Y,Y,Y,Y,Y,Y,Y,Y,Y,Y,Y,N,Y,Y,N,N,N,N,N,N,N,N]) (by kernel_rfl) (fun _ _ _ _ h=>h) R (fun hg162=>(jc (jh R hg162) 1 R Ja ty_37)) ?_
      refine AtH.vk [0,1,2] hgd 26 R R R (ju R) R R (D':=#[Y,Y,Y,Y,Y,Y,Y,Y,Y,Y,Y,Y,Y,Y,Y,Y,Y,Y,Y,Y,Y,Y,Y,N,Y,Y,Y,N,N,N,N,N,N,N]) (by kernel_rfl) (fun _ _ _ _ h=>h) R (fun hg163=>(je (ja R) fa_39_1)) ?_
      refine AtH.vk [0,1,2] hgd 27 R R R (ju R) R R (D':=#[Y,Y,Y,Y,Y,Y,Y,Y,Y,Y,Y,Y,Y,Y,Y,Y,Y,Y,Y,Y,Y,Y,Y,N,Y,Y,Y,Y,N,N,N,N,N,N]) (by kernel_rfl) (fun _ _ _ _ h=>h) R (fun hg164=>(jc (jh R hg164) 1 R Jb ty_37)) ?_
      refine AtH.vk [0,1,2] hgd 28 R R R (ju R) R R (D':=#[Y,Y,Y,Y,Y,Y,Y,Y,Y,Y,Y,Y,Y,Y,Y,Y,Y,Y,Y,Y,Y,Y,Y,N,Y,Y,Y,Y,Y,N,N,N,N,N]) (by kernel_rfl) (fun _ _ _ _ h=>h) R (fun hg165=>(je (ja R) fa_39_1)) ?_
      refine AtH.vk [0,1,2] hgd 29 R R R (ju R) R R (D':=#[Y,Y,Y,Y,Y,Y,Y,Y,Y,Y,Y,Y,Y,Y,Y,Y,Y,Y,Y,Y,Y,Y,Y,N,Y,Y,Y,Y,Y,Y,N,N,N,N]) (by kernel_rfl) (fun _ _ _ _ h=>h) R (fun hg166=>(jc (jh R hg166) 0 R Jb ty_37)) ?_
      refine AtH.all1 23 (by kernel_rfl) ?_
      refine AtH.effG [(0,0),(1,1),(2,2)] R R R R R R R (ju R) (D':=#[Y,Y,Y,Y,Y,Y,Y,Y,Y,Y,Y,Y,Y,Y,Y,Y,Y,Y,Y,Y,Y,Y,Y,Y,Y,Y,Y,Y,Y,Y,N,N,N,N]) (by kernel_rfl) (by kernel_rfl) hF (fun r=>.tv (kInt .i64) r) (fun _=>flat_int) (fun hg167 hF=>eff_of (jn R R jp (jq R en_79 (jf (jh R hg167) (jf (jh R hg167) (jf (jh R hg167) jg)))) (ref03_Orient.ok hF) (by rintro _ _ ⟨r,_,rfl,_⟩;exact flat_int)) (by rintro _ _ ⟨_,_,⟨r,hF,rfl,rfl⟩,rfl,rfl⟩;exact ⟨r,hF,R,R⟩)) (fun r11 hF=>?_)
      replace hF:=W.vm hF
      refine AtH.all1 30 (by kernel_rfl) ?_
      refine AtH.effG [(0,0),(1,1),(2,2)] R R R R R R R (ju R) (D':=#[Y,Y,Y,Y,Y,Y,Y,Y,Y,Y,Y,Y,Y,Y,Y,Y,Y,Y,Y,Y,Y,Y,Y,Y,Y,Y,Y,Y,Y,Y,Y,N,N,N]) (by kernel_rfl) (by kernel_rfl) hF (fun r=>.tv (kInt .i64) r) (fun _=>flat_int) (fun hg168 hF=>eff_of (jn R R jp (jq R en_79 (jf (jh R hg168) (jf (jh R hg168) (jf (jh R hg168) jg)))) (ref03_Orient.ok hF) (by rintro _ _ ⟨r,_,rfl,_⟩;exact flat_int)) (by rintro _ _ ⟨_,_,⟨r,hF,rfl,rfl⟩,rfl,rfl⟩;exact ⟨r,hF,R,R⟩)) (fun r12 hF=>?_)
      refine AtH.vk [0,1,2] hgd 31 R R R (ju R) R R (D':=#[Y,Y,Y,Y,Y,Y,Y,Y,Y,Y,Y,Y,Y,Y,Y,Y,Y,Y,Y,Y,Y,Y,Y,Y,Y,Y,Y,Y,Y,Y,Y,Y,N,N]) (by kernel_rfl) (fun _ _ _ _ h=>h) R (fun hg169=>(jk (jh R hg169) (jh R hg169) bin_mul)) ?_
      refine AtH.vk [0,1,2] hgd 32 R R R (ju R) R R (D':=#[Y,Y,Y,Y,Y,Y,Y,Y,Y,Y,Y,Y,Y,Y,Y,Y,Y,Y,Y,Y,Y,Y,Y,Y,Y,Y,Y,Y,Y,Y,Y,Y,Y,N]) (by kernel_rfl) (fun _ _ _ _ h=>h) R (fun hg170=>(jk (jh R hg170) (ji _ _) vd)) ?_
      refine AtH.take [0,1,2] hgd 33 R R R R (D':=#[Y,Y,Y,Y,Y,Y,Y,Y,Y,Y,Y,Y,Y,Y,Y,Y,Y,Y,Y,Y,Y,Y,Y,Y,Y,Y,Y,Y,Y,Y,Y,Y,Y,Y]) (by kernel_rfl) (fun _ _ _ _ h=>h) R (jm (ja R) (ja R) (jl _) ve) ?_
      refine AtH.done (by kernel_rfl) ?_
      refine At.vh ?_
      refine At.cond (ja R) (fun hb14=>?_) (fun hb14=>?_)
      ·replace hF:=W.ite_t hb14 hF
       refine At.seq (At.region (At.d R R R R (jd (x:=(.tv (kInt .i64) (3:Int))) (ji _ _)) ?_))
       refine At.done (At.vh (At.ret (At.vi ?_)))
       exact At.j rfl (rv_tmp rfl) [] rfl ⟨(3:Int),hF,rfl,rfl⟩
      ·replace hF:=W.ite_f hb14 hF
       refine At.skip (At.vh (At.seq (At.region (At.d R R R R (jd (x:=(.tv (kInt .i64) (0:Int))) (ji _ _)) ?_))))
       refine At.done (At.vh (At.ret ?_))
       exact At.j rfl (rv_tmp rfl) [] rfl ⟨(0:Int),hF,rfl,rfl⟩
def ref13_segment.F (b1:ref13_Border):W Segment:=W.ret (⟨b1.P,b1.Q⟩:Segment)
theorem ref13_segment.ok {b1:ref13_Border} {Q:Segment→Prop} (hF:ref13_segment.F b1 Q):Con Tryz.prog 33 [.tv kref13_Border b1] [] (fun ta rs'=>∃ (r:Segment),Q r∧ta=.tv kSegment r∧rs'=[]):=by
 refine Con.i Tryz.func33 Tryz.ntmps33 R R (fun C=>?_)
 unfold ref13_segment.F at hF
 refine At.seq (At.region (At.f R (jw R R R (ja R)) ?_))
 rintro _ _ ⟨g1,rfl,rfl⟩
 refine At.f R (eff_alloc R R R tz_39) ?_
 rintro _ _ ⟨g2,rfl,rfl⟩
 refine At.done (At.vh (At.seq (At.region (At.d R R R R (je (ja R) fa_49_2) ?_))))
 refine At.d R R R R (jc (ja R) 1 R sub_ref13_Border_2 ty_37) ?_
 refine At.d R R R R (je (ja R) fa_49_3) ?_
 refine At.d R R R R (jc (ja R) 1 R sub_ref13_Border_3 ty_37) ?_
 refine At.d R R R R (jz (jr (ja R) (jr (ja R) parts_nil)) zr_39 bd_39 R (fills_cons R Ja (fills_cons R Jb fills_nil))) ?_
 refine At.f R (jx R R (ja R) 0 R (Sub.self kSegment) ty_39 (ja R)) ?_
 rintro _ _ ⟨rfl,rfl⟩
 refine At.done (At.vh (At.ret ?_))
 exact At.j rfl (rv_cell rfl 0 rfl ty_39) [] rfl ⟨(⟨b1.P,b1.Q⟩:Segment),hF,rfl,rfl⟩
def ref13_Order.F (a1:ref13_Border) (b1:ref13_Border):W Bool:=W.bind (ref13_segment.F a1) (fun r1=>W.bind (ref13_segment.F b1) (fun r2=>W.bind (ref03_Meets.F r1 r2) (fun r3=>W.ret ((r3==(0:Int))||((r3==(1:Int))&&((((sEq a1.A b1.A)||(sEq a1.A b1.B))||(sEq a1.B b1.A))||(sEq a1.B b1.B)))))))
theorem ref13_Order.ok {a1:ref13_Border} {b1:ref13_Border} {Q:Bool→Prop} (hF:ref13_Order.F a1 b1 Q):Con Tryz.prog 42 [.tv kref13_Border a1,.tv kref13_Border b1] [] (fun ta rs'=>∃ (r:Bool),Q r∧ta=.tv kBool r∧rs'=[]):=by
 refine Con.i Tryz.func42 Tryz.ntmps42 R R (fun C=>?_)
 unfold ref13_Order.F at hF
 refine At.seq (At.region (At.f R (jw R R R (ja R)) ?_))
 rintro _ _ ⟨g1,rfl,rfl⟩
 refine At.f R (jw R R R (ja R)) ?_
 rintro _ _ ⟨g2,rfl,rfl⟩
 refine At.d R R R R (jd (x:=(.tv kBool false)) (jl _)) ?_
 refine At.done (At.vh (At.seq ?_))
 refine At.draw mixed [0,1] R [[],[]] (fun φ w hgd=>?_)
 replace hF:=W.vm hF
 refine AtH.take [0,1] hgd 0 R R R R (D':=#[Y,N,N,N,N,N]) (by kernel_rfl) (fun _ _ _ _ h=>h) R (jc (ja R) 1 R (Sub.self kref13_Border) ty_49) ?_
 refine AtH.take [0,1] hgd 2 R R R R (D':=#[Y,N,Y,N,N,N]) (by kernel_rfl) (fun _ _ _ _ h=>h) R (jc (ja R) 0 R (Sub.self kref13_Border) ty_49) ?_
 refine AtH.all1 1 (by kernel_rfl) ?_
 refine AtH.f [(0,0),(1,1)] R R R R R R (jn R R jp (jq R en_33 (jf (ja R) jg)) (ref13_segment.ok hF) (by rintro _ _ ⟨r,_,rfl,_⟩;exact (flat_tv flat_Segment))) (D':=#[Y,Y,Y,N,N,N]) (by kernel_rfl) (by kernel_rfl) ?_
 rintro _ _ ⟨_,_,⟨r1,hF,rfl,rfl⟩,rfl,rfl⟩
 refine ⟨_,.inr ⟨R,(flat_tv flat_Segment)⟩,?_⟩
 replace hF:=W.vm hF
 refine AtH.all1 3 (by kernel_rfl) ?_
 refine AtH.f [(0,0),(1,1)] R R R R R R (jn R R jp (jq R en_33 (jf (ja R) jg)) (ref13_segment.ok hF) (by rintro _ _ ⟨r,_,rfl,_⟩;exact (flat_tv flat_Segment))) (D':=#[Y,Y,Y,Y,N,N]) (by kernel_rfl) (by kernel_rfl) ?_
 rintro _ _ ⟨_,_,⟨r2,hF,rfl,rfl⟩,rfl,rfl⟩
 refine ⟨_,.inr ⟨R,(flat_tv flat_Segment)⟩,?_⟩
 replace hF:=W.vm hF
 refine AtH.all1 4 (by kernel_rfl) ?_
 refine AtH.f [(0,0),(1,1)] R R R R R R (jn R R jp (jq R en_49 (jf (ja R) (jf (ja R) jg))) (ref03_Meets.ok hF) (by rintro _ _ ⟨r,_,rfl,_⟩;exact flat_int)) (D':=#[Y,Y,Y,Y,Y,N]) (by kernel_rfl) (by kernel_rfl) ?_
 rintro _ _ ⟨_,_,⟨r3,hF,rfl,rfl⟩,rfl,rfl⟩
 refine ⟨_,.inr ⟨R,flat_int⟩,?_⟩
 refine AtH.take [0,1] hgd 5 R R R R (D':=#[Y,Y,Y,Y,Y,Y]) (by kernel_rfl) (fun _ _ _ _ h=>h) R (jd (x:=(.tv (kInt .i64) r3)) (ja R)) ?_
 refine AtH.done (by kernel_rfl) ?_
 refine At.vh (At.seq (At.region (At.d R R R R (je (ja R) fa_49_0) ?_)))
 refine At.d R R R R (jc (ja R) 1 R sub_ref13_Border_0 ty_9) ?_
 refine At.d R R R R (je (ja R) fa_49_0) ?_
 refine At.d R R R R (jc (ja R) 0 R sub_ref13_Border_0 ty_9) ?_
 refine At.d R R R R (jk (ja R) (ja R) bin_seql) ?_
 refine At.d R R R R (jb (x:=(.tv kBool (sEq a1.A b1.A))) (ja R)) ?_
 refine At.vj R R R R (jv R) R (fun hg1=>(je (ja R) fa_49_0)) ?_
 refine At.vj R R R R (jv R) R (fun hg2=>(jc (jh R hg2) 1 R sub_ref13_Border_0 ty_9)) ?_
 refine At.vj R R R R (jv R) R (fun hg3=>(je (ja R) fa_49_1)) ?_
 refine At.vj R R R R (jv R) R (fun hg4=>(jc (jh R hg4) 0 R sub_ref13_Border_1 ty_9)) ?_
 refine At.vj R R R R (jv R) R (fun hg5=>(jk (jh R hg5) (jh R hg5) bin_seql)) ?_
 refine At.d R R R R (jm (ja R) (jl _) (ja R) pick_or) ?_
 refine At.d R R R R (jb (x:=(.tv kBool ((sEq a1.A b1.A)||(sEq a1.A b1.B)))) (ja R)) ?_
 refine At.vj R R R R (jv R) R (fun hg6=>(je (ja R) fa_49_1)) ?_
 refine At.vj R R R R (jv R) R (fun hg7=>(jc (jh R hg7) 1 R sub_ref13_Border_1 ty_9)) ?_
 refine At.vj R R R R (jv R) R (fun hg8=>(je (ja R) fa_49_0)) ?_
 refine At.vj R R R R (jv R) R (fun hg9=>(jc (jh R hg9) 0 R sub_ref13_Border_0 ty_9)) ?_
 refine At.vj R R R R (jv R) R (fun hg10=>(jk (jh R hg10) (jh R hg10) bin_seql)) ?_
 refine At.d R R R R (jm (ja R) (jl _) (ja R) pick_or) ?_
 refine At.d R R R R (jb (x:=(.tv kBool (((sEq a1.A b1.A)||(sEq a1.A b1.B))||(sEq a1.B b1.A)))) (ja R)) ?_
 refine At.vj R R R R (jv R) R (fun hg11=>(je (ja R) fa_49_1)) ?_
 refine At.vj R R R R (jv R) R (fun hg12=>(jc (jh R hg12) 1 R sub_ref13_Border_1 ty_9)) ?_
 refine At.vj R R R R (jv R) R (fun hg13=>(je (ja R) fa_49_1)) ?_
 refine At.vj R R R R (jv R) R (fun hg14=>(jc (jh R hg14) 0 R sub_ref13_Border_1 ty_9)) ?_
 refine At.vj R R R R (jv R) R (fun hg15=>(jk (jh R hg15) (jh R hg15) bin_seql)) ?_
 refine At.d R R R R (jm (ja R) (jl _) (ja R) pick_or) ?_
 refine At.d R R R R (jd (x:=(.tv kBool ((((sEq a1.A b1.A)||(sEq a1.A b1.B))||(sEq a1.B b1.A))||(sEq a1.B b1.B)))) (ja R)) ?_
 refine At.done (At.vh (At.seq (At.region (At.d R R R R (jb (x:=(.tv (kInt .i64) r3)) (ja R)) ?_))))
 refine At.d R R R R (jk (ja R) (ji _ _) bin_eql) ?_
 refine At.d R R R R (jb (x:=(.tv kBool (r3==(0:Int)))) (ja R)) ?_
 refine At.vj R R R R (jv R) R (fun hg16=>(jb (x:=(.tv (kInt .i64) r3)) (ja R))) ?_
 refine At.vj R R R R (jv R) R (fun hg17=>(jk (jh R hg17) (ji _ _) bin_eql)) ?_
 refine At.vj R R R R (jv R) R (fun hg18=>(jb (x:=(.tv kBool (r3==(1:Int)))) (jh R hg18))) ?_
 refine At.vj R R R R (jt R) R (fun hg19=>(jb (x:=(.tv kBool ((((sEq a1.A b1.A)||(sEq a1.A b1.B))||(sEq a1.B b1.A))||(sEq a1.B b1.B)))) (ja R))) ?_
 refine At.vj R R R R (jv R) R (fun hg20=>(jm (jh R hg20) (ja R) (jl _) (pick_andG (and_of hg20)))) ?_
 refine At.d R R R R (jm (ja R) (jl _) (ja R) pick_or) ?_
 refine At.d R R R R (jd (x:=(.tv kBool ((r3==(0:Int))||((r3==(1:Int))&&((((sEq a1.A b1.A)||(sEq a1.A b1.B))||(sEq a1.B b1.A))||(sEq a1.B b1.B)))))) (ja R)) ?_
 refine At.done (At.vh (At.ret ?_))
 exact At.j rfl (rv_tmp rfl) [] rfl ⟨((r3==(0:Int))||((r3==(1:Int))&&((((sEq a1.A b1.A)||(sEq a1.A b1.B))||(sEq a1.B b1.A))||(sEq a1.B b1.B)))),hF,rfl,rfl⟩
def ref13_cross.F (a1:BA) (b1:BA):W Violation:=W.ite (sEq a1 b1) (W.ret (⟨(⟨#[]⟩:BA),(2:Int),([a1]:List BA)⟩:Violation)) (W.ret (⟨(⟨#[]⟩:BA),(2:Int),([(sMin a1 b1),(sMax a1 b1)]:List BA)⟩:Violation))
theorem ref13_cross.ok {a1:BA} {b1:BA} {Q:Violation→Prop} (hF:ref13_cross.F a1 b1 Q):Con Tryz.prog 44 [.tv kStr a1,.tv kStr b1] [] (fun ta rs'=>∃ (r:Violation),Q r∧ta=.tv kViolation r∧rs'=[]):=by
 refine Con.i Tryz.func44 Tryz.ntmps44 R R (fun C=>?_)
 unfold ref13_cross.F at hF
 refine At.seq (At.region (At.f R (eff_alloc R R R tz_43) ?_))
 rintro _ _ ⟨g1,rfl,rfl⟩
 refine At.done (At.vh (At.seq (At.seq (At.region (At.d R R R R (jb (x:=(.tv kStr a1)) (ja R)) ?_)))))
 refine At.d R R R R (jb (x:=(.tv kStr b1)) (ja R)) ?_
 refine At.d R R R R (jk (ja R) (ja R) bin_seql) ?_
 refine At.done (At.vh ?_)
 refine At.cond (ja R) (fun hb1=>?_) (fun hb1=>?_)
 ·replace hF:=W.ite_t hb1 hF
  refine At.seq (At.region (At.d R R R R (jb (x:=(.tv kStr a1)) (ja R)) ?_))
  refine At.f R (jy R R R (os:=[.tmp 8]) R sl_41 (xs:=([a1]:List BA)) (jf (ja R) jg) R R) ?_
  rintro _ _ ⟨v1,rfl,rfl⟩
  refine At.freeze 0 9 R R ?_
  refine At.d R R R R (jz (jr (ji _ _) (jr (ja R) parts_nil)) zr_43 bd_43 R (fills_cons R sub_Violation_1 (fills_cons R sub_Violation_2 fills_nil))) ?_
  refine At.f R (jx R R (ja R) 1 R (Sub.self kViolation) ty_43 (ja R)) ?_
  rintro _ _ ⟨rfl,rfl⟩
  refine At.done (At.vh (At.ret (At.vi ?_)))
  exact At.j rfl (rv_cell rfl 1 rfl ty_43) [] rfl ⟨(⟨(⟨#[]⟩:BA),(2:Int),([a1]:List BA)⟩:Violation),hF,rfl,rfl⟩
 ·replace hF:=W.ite_f hb1 hF
  refine At.skip (At.vh (At.seq (At.region (At.d R R R R (jb (x:=(.tv kStr a1)) (ja R)) ?_))))
  refine At.d R R R R (jb (x:=(.tv kStr b1)) (ja R)) ?_
  refine At.d R R R R (does_smin (ja R) (ja R)) ?_
  refine At.d R R R R (jb (x:=(.tv kStr a1)) (ja R)) ?_
  refine At.d R R R R (jb (x:=(.tv kStr b1)) (ja R)) ?_
  refine At.d R R R R (does_smax (ja R) (ja R)) ?_
  refine At.f R (jy R R R (os:=[.tmp 13,.tmp 16]) R sl_41 (xs:=([(sMin a1 b1),(sMax a1 b1)]:List BA)) (jf (ja R) (jf (ja R) jg)) R R) ?_
  rintro _ _ ⟨v2,rfl,rfl⟩
  refine At.freeze 0 17 R R ?_
  refine At.d R R R R (jz (jr (ji _ _) (jr (ja R) parts_nil)) zr_43 bd_43 R (fills_cons R sub_Violation_1 (fills_cons R sub_Violation_2 fills_nil))) ?_
  refine At.f R (jx R R (ja R) 1 R (Sub.self kViolation) ty_43 (ja R)) ?_
  rintro _ _ ⟨rfl,rfl⟩
  refine At.done (At.vh (At.ret ?_))
  exact At.j rfl (rv_cell rfl 1 rfl ty_43) [] rfl ⟨(⟨(⟨#[]⟩:BA),(2:Int),([(sMin a1 b1),(sMax a1 b1)]:List BA)⟩:Violation),hF,rfl,rfl⟩
def ref13_Check.c1 (out84:(List Violation)):W (List Violation):=W.ret out84
def ref13_Check.c2 (i6:Int) (A1:(List Violation)→Int→W (List Violation)) (out207:(List Violation)):W (List Violation):=A1 out207 (w64 (i6+(1:Int)))
def ref13_Check.c4 (k36:Int) (A2:(List Violation)→Int→W (List Violation)) (out250:(List Violation)):W (List Violation):=A2 out250 (w64 (k36+(1:Int)))
def ref13_Check.l3 (r1:(List ref13_Border)) (i6:Int) (k36:Int) (K4:(List Violation)→W (List Violation)) (A3:(List Violation)→Int→W (List Violation)) (out253:(List Violation)) (x78:Int):W (List Violation):=W.ite (decide (x78<(4:Int))) (W.req (0≤(Int.tmod x78 (2:Int))∧(Int.tmod x78 (2:Int))<(([(rd vz r1 i6).A,(rd vz r1 i6).B]:List BA).length:Int)) (W.req (0≤(w64 (Int.tdiv x78 (2:Int)))∧(w64 (Int.tdiv x78 (2:Int)))<(([(rd vz r1 k36).A,(rd vz r1 k36).B]:List BA).length:Int)) (W.req ((!(sEq (rd (⟨#[]⟩:BA) ([(rd vz r1 i6).A,(rd vz r1 i6).B]:List BA) (Int.tmod x78 (2:Int))) (rd (⟨#[]⟩:BA) ([(rd vz r1 k36).A,(rd vz r1 k36).B]:List BA) (w64 (Int.tdiv x78 (2:Int))))))=true→0≤(Int.tmod x78 (2:Int))∧(Int.tmod x78 (2:Int))<(([(rd vz r1 i6).P,(rd vz r1 i6).Q]:List Point).length:Int)) (W.req ((!(sEq (rd (⟨#[]⟩:BA) ([(rd vz r1 i6).A,(rd vz r1 i6).B]:List BA) (Int.tmod x78 (2:Int))) (rd (⟨#[]⟩:BA) ([(rd vz r1 k36).A,(rd vz r1 k36).B]:List BA) (w64 (Int.tdiv x78 (2:Int))))))=true→0≤(w64 (Int.tdiv x78 (2:Int)))∧(w64 (Int.tdiv x78 (2:Int)))<(([(rd vz r1 k36).P,(rd vz r1 k36).Q]:List Point).length:Int)) (W.ite ((!(sEq (rd (⟨#[]⟩:BA) ([(rd vz r1 i6).A,(rd vz r1 i6).B]:List BA) (Int.tmod x78 (2:Int))) (rd (⟨#[]⟩:BA) ([(rd vz r1 k36).A,(rd vz r1 k36).B]:List BA) (w64 (Int.tdiv x78 (2:Int))))))&&(eq_Point (rd zPoint ([(rd vz r1 i6).P,(rd vz r1 i6).Q]:List Point) (Int.tmod x78 (2:Int))) (rd zPoint ([(rd vz r1 k36).P,(rd vz r1 k36).Q]:List Point) (w64 (Int.tdiv x78 (2:Int)))))) (W.req (0≤(Int.tmod x78 (2:Int))∧(Int.tmod x78 (2:Int))<(([(rd vz r1 i6).A,(rd vz r1 i6).B]:List BA).length:Int)) (W.req (0≤(w64 (Int.tdiv x78 (2:Int)))∧(w64 (Int.tdiv x78 (2:Int)))<(([(rd vz r1 k36).A,(rd vz r1 k36).B]:List BA).length:Int)) (W.bind (ref13_cross.F (rd (⟨#[]⟩:BA) ([(rd vz r1 i6).A,(rd vz r1 i6).B]:List BA) (Int.tmod x78 (2:Int))) (rd (⟨#[]⟩:BA) ([(rd vz r1 k36).A,(rd vz r1 k36).B]:List BA) (w64 (Int.tdiv x78 (2:Int))))) (fun r178=>W.bind (ref13_Add.F out253 r178) (fun r179=>A3 r179 (w64 (x78+(1:Int)))))))) (A3 out253 (w64 (x78+(1:Int))))))))) (K4 out253)
def ref13_Check.l2 (r1:(List ref13_Border)) (i6:Int) (K2:(List Violation)→W (List Violation)) (A2:(List Violation)→Int→W (List Violation)) (out246:(List Violation)) (k36:Int):W (List Violation):=W.ite (decide (k36≤i6)) (W.req (0≤i6∧i6<(r1.length:Int)) (W.req (0≤k36∧k36<(r1.length:Int)) (W.req (0≤i6∧i6<(r1.length:Int)) (W.req (0≤k36∧k36<(r1.length:Int)) (W.ex fun n=>W.iter2 (ref13_Check.l3 r1 i6 k36 (ref13_Check.c4 k36 A2)) n out246 (0:Int)))))) (K2 out246)
def ref13_Check.c3 (r1:(List ref13_Border)) (i6:Int) (K2:(List Violation)→W (List Violation)) (out235:(List Violation)):W (List Violation):=W.ex fun n=>W.iter2 (ref13_Check.l2 r1 i6 K2) n out235 (0:Int)
def ref13_Check.c5 (k39:Int) (A4:(List Violation)→Int→W (List Violation)) (out292:(List Violation)):W (List Violation):=A4 out292 (w64 (k39+(1:Int)))
def ref13_Check.c6 (x90:Int) (A5:(List Violation)→Int→W (List Violation)) (out307:(List Violation)):W (List Violation):=A5 out307 (w64 (x90+(1:Int)))
def ref13_Check.l6 (r1:(List ref13_Border)) (i6:Int) (k39:Int) (x90:Int) (K6:(List Violation)→W (List Violation)) (A6:(List Violation)→Int→W (List Violation)) (out310:(List Violation)) (y102:Int):W (List Violation):=W.req (0≤k39∧k39<(r1.length:Int)) (W.req (0≤k39∧k39<(r1.length:Int)) (W.ite (decide (y102<(((rd vz r1 k39).Owners).length:Int))) (W.req (0≤i6∧i6<(r1.length:Int)) (W.req (0≤x90∧x90<(((rd vz r1 i6).Owners).length:Int)) (W.req (0≤k39∧k39<(r1.length:Int)) (W.req (0≤y102∧y102<(((rd vz r1 k39).Owners).length:Int)) (W.bind (ref13_cross.F (rd (⟨#[]⟩:BA) ((rd vz r1 i6).Owners) x90) (rd (⟨#[]⟩:BA) ((rd vz r1 k39).Owners) y102)) (fun r229=>W.bind (ref13_Add.F out310 r229) (fun r230=>A6 r230 (w64 (y102+(1:Int)))))))))) (K6 out310)))
def ref13_Check.l5 (r1:(List ref13_Border)) (i6:Int) (k39:Int) (K5:(List Violation)→W (List Violation)) (A5:(List Violation)→Int→W (List Violation)) (out303:(List Violation)) (x90:Int):W (List Violation):=W.req (0≤i6∧i6<(r1.length:Int)) (W.req ((decide (x90<(((rd vz r1 i6).Owners).length:Int)))=true→0≤i6∧i6<(r1.length:Int)) (W.req ((decide (x90<(((rd vz r1 i6).Owners).length:Int)))=true→0≤k39∧k39<(r1.length:Int)) (W.bind (W.ite (decide (x90<(((rd vz r1 i6).Owners).length:Int))) (ref13_Order.F (rd vz r1 i6) (rd vz r1 k39)) (W.ret false)) (fun r220=>W.ite ((decide (x90<(((rd vz r1 i6).Owners).length:Int)))&&(!r220)) (W.ex fun n=>W.iter2 (ref13_Check.l6 r1 i6 k39 x90 (ref13_Check.c6 x90 A5)) n out303 (0:Int)) (K5 out303)))))
def ref13_Check.l4 (r1:(List ref13_Border)) (i6:Int) (K3:(List Violation)→W (List Violation)) (A4:(List Violation)→Int→W (List Violation)) (out280:(List Violation)) (k39:Int):W (List Violation):=W.ite (decide (k39<i6)) (W.ex fun n=>W.iter2 (ref13_Check.l5 r1 i6 k39 (ref13_Check.c5 k39 A4)) n out280 (0:Int)) (K3 out280)
def ref13_Check.l1 (r1:(List ref13_Border)) (K1:(List Violation)→W (List Violation)) (A1:(List Violation)→Int→W (List Violation)) (out167:(List Violation)) (i6:Int):W (List Violation):=W.ite (decide (i6<(r1.length:Int))) (W.ex fun n=>W.iter2 (ref13_Check.l4 r1 i6 (ref13_Check.c3 r1 i6 (ref13_Check.c2 i6 A1))) n out167 (0:Int)) (K1 out167)
def ref13_Check.F (m1:Map):W (List Violation):=W.bind (ref13_Borders.F m1) (fun r1=>W.ex fun n=>W.iter2 (ref13_Check.l1 r1 (ref13_Check.c1)) n ([]:List Violation) (0:Int))
theorem ref13_Check.ok {m1:Map} {Q:(List Violation)→Prop} (hF:ref13_Check.F m1 Q):Con Tryz.prog 17 [.tv kMap m1] [] (fun ta rs'=>∃ (r:(List Violation)),Q r∧ta=.tv (kSlice kViolation) r∧rs'=[]):=by
 refine Con.i Tryz.func17 Tryz.ntmps17 R R (fun C=>?_)
 unfold ref13_Check.F at hF
 refine At.seq (At.region (At.f R (jw R R R (ja R)) ?_))
 rintro _ _ ⟨g1,rfl,rfl⟩
 refine At.d R R R R (jd (x:=(.eq (.slice none 0 0))) (opd_eq _)) ?_
 refine At.done (At.vh (At.seq (At.region (At.d R R R R (jd (x:=(.eq (.slice none 0 0))) (opd_eq _)) ?_))))
 refine At.done (At.vh (At.seq (At.region (At.d R R R R (jc (ja R) 0 R (Sub.self kMap) ty_24) ?_))))
 replace hF:=W.vm hF
 refine At.f R (jo R R (jq R en_22 (jf (ja R) jg)) [] R (ref13_Borders.ok hF)) ?_
 rintro _ _ ⟨_,_,⟨r1,v1,hF,rfl,rfl⟩,rfl,rfl⟩
 refine At.d R R R R (jd (x:=(.eq v1)) (ja R)) ?_
 refine At.done (At.vh ?_)
 refine At.cut (fun rs L=>∃ (out84:(List Violation)),ref13_Check.c1 out84 Q∧rs=[]∧L=mkL [(3,(.tv (kSlice kViolation) out84))]) ?_ ?_
 ·refine At.seq (At.region (At.d R R R R (jd (x:=(.tv (kInt .i64) (0:Int))) (ji _ _)) ?_))
  refine At.done (At.vh (At.block ?_))
  refine At.nilview 3 kViolation R ?_
  obtain ⟨n6,hF⟩:=hF
  refine At.w [0] R [(3,(.tv (kSlice kViolation) ([]:List Violation))),(4,(.eq v1)),(5,(.tv (kInt .i64) (0:Int)))] ⟨R,R,R,trivial⟩ ?_
  refine At.loop (fun m rs L=>∃ (out167:(List Violation)) (i6:Int),W.iter2 (ref13_Check.l1 r1 (ref13_Check.c1)) m out167 i6 Q∧rs=[.row v1 49 kref13_Border r1]∧L=mkL [(3,(.tv (kSlice kViolation) out167)),(4,(.eq v1)),(5,(.tv (kInt .i64) i6))]) ?_ ?_ (m:=n6) ⟨([]:List Violation),(0:Int),hF,R,R⟩
  ·rintro rs L ⟨_,_,hF,_,_⟩;exact hF
  ·rintro m2 _ _ ⟨out167,i6,hF,rfl,rfl⟩
   replace hF:=W.iter2_s hF
   unfold ref13_Check.l1 at hF
   refine At.seq (At.seq (At.region (At.d R R R R (jb (x:=(.tv (kInt .i64) i6)) (ja R)) ?_)))
   refine At.d R R R R (jb (x:=(.eq v1)) (ja R)) ?_
   refine At.d R R R R (does_len_row (ja R) 0 R Tryz.underlying45) ?_
   refine At.d R R R R (jk (ja R) (ja R) vd) ?_
   refine At.done (At.vh ?_)
   refine At.cond (ja R) (fun hb101=>?_) (fun hb101=>?_)
   ·replace hF:=W.ite_t hb101 hF
    refine At.skip (At.vh ?_)
    refine At.cut (fun rs L=>∃ (out207:(List Violation)),ref13_Check.c2 i6 (W.iter2 (ref13_Check.l1 r1 (ref13_Check.c1)) m2) out207 Q∧rs=[.row v1 49 kref13_Border r1]∧L=mkL [(3,(.tv (kSlice kViolation) out207)),(4,(.eq v1)),(5,(.tv (kInt .i64) i6))]) ?_ ?_
    ·refine At.block ?_
     refine At.cut (fun rs L=>∃ (out235:(List Violation)),ref13_Check.c3 r1 i6 (ref13_Check.c2 i6 (W.iter2 (ref13_Check.l1 r1 (ref13_Check.c1)) m2)) out235 Q∧rs=[.row v1 49 kref13_Border r1]∧L=mkL [(3,(.tv (kSlice kViolation) out235)),(4,(.eq v1)),(5,(.tv (kInt .i64) i6))]) ?_ ?_
     ·refine At.seq (At.region (At.d R R R R (jd (x:=(.tv (kInt .i64) (0:Int))) (ji _ _)) ?_))
      refine At.done (At.vh (At.block ?_))
      obtain ⟨n5,hF⟩:=hF
      refine At.w [0] R [(3,(.tv (kSlice kViolation) out167)),(4,(.eq v1)),(5,(.tv (kInt .i64) i6)),(6,(.tv (kInt .i64) (0:Int)))] ⟨R,R,R,R,trivial⟩ ?_
      refine At.loop (fun m rs L=>∃ (out280:(List Violation)) (k39:Int),W.iter2 (ref13_Check.l4 r1 i6 (ref13_Check.c3 r1 i6 (ref13_Check.c2 i6 (W.iter2 (ref13_Check.l1 r1 (ref13_Check.c1)) m2)))) m out280 k39 Q∧rs=[.row v1 49 kref13_Border r1]∧L=mkL [(3,(.tv (kSlice kViolation) out280)),(4,(.eq v1)),(5,(.tv (kInt .i64) i6)),(6,(.tv (kInt .i64) k39))]) ?_ ?_ (m:=n5) ⟨out167,(0:Int),hF,R,R⟩
      ·rintro rs L ⟨_,_,hF,_,_⟩;exact hF
      ·rintro m5 _ _ ⟨out280,k39,hF,rfl,rfl⟩
       replace hF:=W.iter2_s hF
       unfold ref13_Check.l4 at hF
       refine At.seq (At.seq (At.region (At.d R R R R (jb (x:=(.tv (kInt .i64) k39)) (ja R)) ?_)))
       refine At.d R R R R (jb (x:=(.tv (kInt .i64) i6)) (ja R)) ?_
       refine At.d R R R R (jk (ja R) (ja R) vd) ?_
       refine At.done (At.vh ?_)
       refine At.cond (ja R) (fun hb175=>?_) (fun hb175=>?_)
       ·replace hF:=W.ite_t hb175 hF
        refine At.skip (At.vh ?_)
        refine At.cut (fun rs L=>∃ (out292:(List Violation)),ref13_Check.c5 k39 (W.iter2 (ref13_Check.l4 r1 i6 (ref13_Check.c3 r1 i6 (ref13_Check.c2 i6 (W.iter2 (ref13_Check.l1 r1 (ref13_Check.c1)) m2)))) m5) out292 Q∧rs=[.row v1 49 kref13_Border r1]∧L=mkL [(3,(.tv (kSlice kViolation) out292)),(4,(.eq v1)),(5,(.tv (kInt .i64) i6)),(6,(.tv (kInt .i64) k39))]) ?_ ?_
        ·refine At.block (At.seq (At.region (At.d R R R R (jd (x:=(.tv (kInt .i64) (0:Int))) (ji _ _)) ?_)))
         refine At.done (At.vh (At.block ?_))
         obtain ⟨n4,hF⟩:=hF
         refine At.w [0] R [(3,(.tv (kSlice kViolation) out280)),(4,(.eq v1)),(5,(.tv (kInt .i64) i6)),(6,(.tv (kInt .i64) k39)),(7,(.tv (kInt .i64) (0:Int)))] ⟨R,R,R,R,R,trivial⟩ ?_
         refine At.loop (fun m rs L=>∃ (out303:(List Violation)) (x90:Int),W.iter2 (ref13_Check.l5 r1 i6 k39 (ref13_Check.c5 k39 (W.iter2 (ref13_Check.l4 r1 i6 (ref13_Check.c3 r1 i6 (ref13_Check.c2 i6 (W.iter2 (ref13_Check.l1 r1 (ref13_Check.c1)) m2)))) m5))) m out303 x90 Q∧rs=[.row v1 49 kref13_Border r1]∧L=mkL [(3,(.tv (kSlice kViolation) out303)),(4,(.eq v1)),(5,(.tv (kInt .i64) i6)),(6,(.tv (kInt .i64) k39)),(7,(.tv (kInt .i64) x90))]) ?_ ?_ (m:=n4) ⟨out280,(0:Int),hF,R,R⟩
         ·rintro rs L ⟨_,_,hF,_,_⟩;exact hF
         ·rintro m6 _ _ ⟨out303,x90,hF,rfl,rfl⟩
          replace hF:=W.iter2_s hF
          unfold ref13_Check.l5 at hF
          refine At.seq (At.seq ?_)
          refine At.draw mixed [0] R [[]] (fun φ w hgd=>?_)
          obtain ⟨hq697,hF⟩:=hF
          obtain ⟨hq698,hF⟩:=hF
          obtain ⟨hq699,hF⟩:=hF
          replace hF:=W.vm hF
          refine AtH.take [0] hgd 0 R R R R (D':=#[Y,N,N,N,N,N,N,N,N,N,N,N,N,N,N,N,N,N,N,N]) (by kernel_rfl) (fun _ _ _ _ h=>h) R (jb (x:=(.tv (kInt .i64) x90)) (ja R)) ?_
          refine AtH.take [0] hgd 1 R R R R (D':=#[Y,Y,N,N,N,N,N,N,N,N,N,N,N,N,N,N,N,N,N,N]) (by kernel_rfl) (fun _ _ _ _ h=>h) R (jb (x:=(.eq v1)) (ja R)) ?_
          refine AtH.take [0] hgd 2 R R R R (D':=#[Y,Y,Y,N,N,N,N,N,N,N,N,N,N,N,N,N,N,N,N,N]) (by kernel_rfl) (fun _ _ _ _ h=>h) R (jb (x:=(.tv (kInt .i64) i6)) (ja R)) ?_
          refine AtH.take [0] hgd 3 R R R R (D':=#[Y,Y,Y,Y,N,N,N,N,N,N,N,N,N,N,N,N,N,N,N,N]) (by kernel_rfl) (fun _ _ _ _ h=>h) R (does_idx_row (ja R) 0 R (ja R) Tryz.underlying45 ty_49 hq697) ?_
          refine AtH.take [0] hgd 4 R R R R (D':=#[Y,Y,Y,Y,Y,N,N,N,N,N,N,N,N,N,N,N,N,N,N,N]) (by kernel_rfl) (fun _ _ _ _ h=>h) R (does_field_elem (ja R) fa_49_4) ?_
          refine AtH.take [0] hgd 5 R R R R (D':=#[Y,Y,Y,Y,Y,Y,N,N,N,N,N,N,N,N,N,N,N,N,N,N]) (by kernel_rfl) (fun _ _ _ _ h=>h) R (Jc (ja R) 0 R i6 6 R vz hq697 sub_ref13_Border_4 ty_41) ?_
          refine AtH.take [0] hgd 6 R R R R (D':=#[Y,Y,Y,Y,Y,Y,Y,N,N,N,N,N,N,N,N,N,N,N,N,N]) (by kernel_rfl) (fun _ _ _ _ h=>h) R (js (ja R) Tryz.underlying41) ?_
          refine AtH.take [0] hgd 7 R R R R (D':=#[Y,Y,Y,Y,Y,Y,Y,Y,N,N,N,N,N,N,N,N,N,N,N,N]) (by kernel_rfl) (fun _ _ _ _ h=>h) R (jk (ja R) (ja R) vd) ?_
          refine AtH.take [0] hgd 8 R R R R (D':=#[Y,Y,Y,Y,Y,Y,Y,Y,Y,N,N,N,N,N,N,N,N,N,N,N]) (by kernel_rfl) (fun _ _ _ _ h=>h) R (jb (x:=(.tv kBool (decide (x90<(((rd vz r1 i6).Owners).length:Int))))) (ja R)) ?_
          refine AtH.vk [0] hgd 9 R R R (ju R) R R (D':=#[Y,Y,Y,Y,Y,Y,Y,Y,Y,Y,N,N,N,N,N,N,N,N,N,N]) (by kernel_rfl) (fun _ _ _ _ h=>h) R (fun hg1256=>(jb (x:=(.eq v1)) (ja R))) ?_
          refine AtH.vk [0] hgd 10 R R R (ju R) R R (D':=#[Y,Y,Y,Y,Y,Y,Y,Y,Y,Y,Y,N,N,N,N,N,N,N,N,N]) (by kernel_rfl) (fun _ _ _ _ h=>h) R (fun hg1257=>(jb (x:=(.tv (kInt .i64) i6)) (ja R))) ?_
          refine AtH.vk [0] hgd 11 R R R (ju R) R R (D':=#[Y,Y,Y,Y,Y,Y,Y,Y,Y,Y,Y,Y,N,N,N,N,N,N,N,N]) (by kernel_rfl) (fun _ _ _ _ h=>h) R (fun hg1258=>(does_idx_row (jh R hg1258) 0 R (jh R hg1258) Tryz.underlying45 ty_49 (hq698 hg1258))) ?_
          refine AtH.vk [0] hgd 12 R R R (ju R) R R (D':=#[Y,Y,Y,Y,Y,Y,Y,Y,Y,Y,Y,Y,Y,N,N,N,N,N,N,N]) (by kernel_rfl) (fun _ _ _ _ h=>h) R (fun hg1259=>(Jc (jh R hg1259) 0 R i6 0 R vz (hq698 hg1259) (Sub.self kref13_Border) ty_49)) ?_
          refine AtH.vk [0] hgd 13 R R R (ju R) R R (D':=#[Y,Y,Y,Y,Y,Y,Y,Y,Y,Y,Y,Y,Y,Y,N,N,N,N,N,N]) (by kernel_rfl) (fun _ _ _ _ h=>h) R (fun hg1260=>(jb (x:=(.eq v1)) (ja R))) ?_
          refine AtH.vk [0] hgd 14 R R R (ju R) R R (D':=#[Y,Y,Y,Y,Y,Y,Y,Y,Y,Y,Y,Y,Y,Y,Y,N,N,N,N,N]) (by kernel_rfl) (fun _ _ _ _ h=>h) R (fun hg1261=>(jb (x:=(.tv (kInt .i64) k39)) (ja R))) ?_
          refine AtH.vk [0] hgd 15 R R R (ju R) R R (D':=#[Y,Y,Y,Y,Y,Y,Y,Y,Y,Y,Y,Y,Y,Y,Y,Y,N,N,N,N]) (by kernel_rfl) (fun _ _ _ _ h=>h) R (fun hg1262=>(does_idx_row (jh R hg1262) 0 R (jh R hg1262) Tryz.underlying45 ty_49 (hq699 hg1262))) ?_
          refine AtH.vk [0] hgd 16 R R R (ju R) R R (D':=#[Y,Y,Y,Y,Y,Y,Y,Y,Y,Y,Y,Y,Y,Y,Y,Y,Y,N,N,N]) (by kernel_rfl) (fun _ _ _ _ h=>h) R (fun hg1263=>(Jc (jh R hg1263) 0 R k39 0 R vz (hq699 hg1263) (Sub.self kref13_Border) ty_49)) ?_
          refine AtH.all1 17 (by kernel_rfl) ?_
          refine AtH.effG [(0,0)] R R R R R R R (ju R) (D':=#[Y,Y,Y,Y,Y,Y,Y,Y,Y,Y,Y,Y,Y,Y,Y,Y,Y,Y,N,N]) (by kernel_rfl) (by kernel_rfl) hF (fun r=>.tv kBool r) (fun _=>vl) (fun hg1264 hF=>eff_of (jn R R jp (jq R en_42 (jf (jh R hg1264) (jf (jh R hg1264) jg))) (ref13_Order.ok hF) (by rintro _ _ ⟨r,_,rfl,_⟩;exact vl)) (by rintro _ _ ⟨_,_,⟨r,hF,rfl,rfl⟩,rfl,rfl⟩;exact ⟨r,hF,R,R⟩)) (fun r220 hF=>?_)
          refine AtH.vk [0] hgd 18 R R R (ju R) R R (D':=#[Y,Y,Y,Y,Y,Y,Y,Y,Y,Y,Y,Y,Y,Y,Y,Y,Y,Y,Y,N]) (by kernel_rfl) (fun _ _ _ _ h=>h) R (fun hg1265=>(does_not (jh R hg1265))) ?_
          refine AtH.take [0] hgd 19 R R R R (D':=#[Y,Y,Y,Y,Y,Y,Y,Y,Y,Y,Y,Y,Y,Y,Y,Y,Y,Y,Y,Y]) (by kernel_rfl) (fun _ _ _ _ h=>h) R (jm (ja R) (ja R) (jl _) ve) ?_
          refine AtH.done (by kernel_rfl) ?_
          refine At.vh ?_
          refine At.cond (ja R) (fun hb188=>?_) (fun hb188=>?_)
          ·replace hF:=W.ite_t hb188 hF
           refine At.skip (At.vh ?_)
           refine At.cut (fun rs L=>∃ (out307:(List Violation)),ref13_Check.c6 x90 (W.iter2 (ref13_Check.l5 r1 i6 k39 (ref13_Check.c5 k39 (W.iter2 (ref13_Check.l4 r1 i6 (ref13_Check.c3 r1 i6 (ref13_Check.c2 i6 (W.iter2 (ref13_Check.l1 r1 (ref13_Check.c1)) m2)))) m5))) m6) out307 Q∧rs=[.row v1 49 kref13_Border r1]∧L=mkL [(3,(.tv (kSlice kViolation) out307)),(4,(.eq v1)),(5,(.tv (kInt .i64) i6)),(6,(.tv (kInt .i64) k39)),(7,(.tv (kInt .i64) x90))]) ?_ ?_
           ·refine At.block (At.seq (At.region (At.d R R R R (jd (x:=(.tv (kInt .i64) (0:Int))) (ji _ _)) ?_)))
            refine At.done (At.vh (At.block ?_))
            obtain ⟨n3,hF⟩:=hF
            refine At.w [0] R [(3,(.tv (kSlice kViolation) out303)),(4,(.eq v1)),(5,(.tv (kInt .i64) i6)),(6,(.tv (kInt .i64) k39)),(7,(.tv (kInt .i64) x90)),(8,(.tv (kInt .i64) (0:Int)))] ⟨R,R,R,R,R,R,trivial⟩ ?_
            refine At.loop (fun m rs L=>∃ (out310:(List Violation)) (y102:Int),W.iter2 (ref13_Check.l6 r1 i6 k39 x90 (ref13_Check.c6 x90 (W.iter2 (ref13_Check.l5 r1 i6 k39 (ref13_Check.c5 k39 (W.iter2 (ref13_Check.l4 r1 i6 (ref13_Check.c3 r1 i6 (ref13_Check.c2 i6 (W.iter2 (ref13_Check.l1 r1 (ref13_Check.c1)) m2)))) m5))) m6))) m out310 y102 Q∧rs=[.row v1 49 kref13_Border r1]∧L=mkL [(3,(.tv (kSlice kViolation) out310)),(4,(.eq v1)),(5,(.tv (kInt .i64) i6)),(6,(.tv (kInt .i64) k39)),(7,(.tv (kInt .i64) x90)),(8,(.tv (kInt .i64) y102))]) ?_ ?_ (m:=n3) ⟨out303,(0:Int),hF,R,R⟩
            ·rintro rs L ⟨_,_,hF,_,_⟩;exact hF
            ·rintro m7 _ _ ⟨out310,y102,hF,rfl,rfl⟩
             replace hF:=W.iter2_s hF
             unfold ref13_Check.l6 at hF
             refine At.seq (At.seq (At.region (At.d R R R R (jb (x:=(.tv (kInt .i64) y102)) (ja R)) ?_)))
             refine At.d R R R R (jb (x:=(.eq v1)) (ja R)) ?_
             refine At.d R R R R (jb (x:=(.tv (kInt .i64) k39)) (ja R)) ?_
             obtain ⟨hq724,hF⟩:=hF
             refine At.d R R R R (does_idx_row (ja R) 0 R (ja R) Tryz.underlying45 ty_49 hq724) ?_
             refine At.d R R R R (does_field_elem (ja R) fa_49_4) ?_
             obtain ⟨hq725,hF⟩:=hF
             refine At.d R R R R (Jc (ja R) 0 R k39 6 R vz hq725 sub_ref13_Border_4 ty_41) ?_
             refine At.d R R R R (js (ja R) Tryz.underlying41) ?_
             refine At.d R R R R (jk (ja R) (ja R) vd) ?_
             refine At.done (At.vh ?_)
             refine At.cond (ja R) (fun hb193=>?_) (fun hb193=>?_)
             ·replace hF:=W.ite_t hb193 hF
              refine At.skip (At.vh (At.seq (At.block ?_)))
              refine At.draw mixed [0] R [[]] (fun φ w hgd=>?_)
              obtain ⟨hq726,hF⟩:=hF
              obtain ⟨hq727,hF⟩:=hF
              obtain ⟨hq728,hF⟩:=hF
              obtain ⟨hq729,hF⟩:=hF
              replace hF:=W.vm hF
              refine AtH.take [0] hgd 0 R R R R (D':=#[Y,N,N,N,N,N,N,N,N,N,N,N,N,N,N,N,N,N,N,N]) (by kernel_rfl) (fun _ _ _ _ h=>h) R (jb (x:=(.tv (kSlice kViolation) out310)) (ja R)) ?_
              refine AtH.take [0] hgd 1 R R R R (D':=#[Y,Y,N,N,N,N,N,N,N,N,N,N,N,N,N,N,N,N,N,N]) (by kernel_rfl) (fun _ _ _ _ h=>h) R (jb (x:=(.eq v1)) (ja R)) ?_
              refine AtH.take [0] hgd 2 R R R R (D':=#[Y,Y,Y,N,N,N,N,N,N,N,N,N,N,N,N,N,N,N,N,N]) (by kernel_rfl) (fun _ _ _ _ h=>h) R (jb (x:=(.tv (kInt .i64) i6)) (ja R)) ?_
              refine AtH.take [0] hgd 3 R R R R (D':=#[Y,Y,Y,Y,N,N,N,N,N,N,N,N,N,N,N,N,N,N,N,N]) (by kernel_rfl) (fun _ _ _ _ h=>h) R (does_idx_row (ja R) 0 R (ja R) Tryz.underlying45 ty_49 hq726) ?_
              refine AtH.take [0] hgd 4 R R R R (D':=#[Y,Y,Y,Y,Y,N,N,N,N,N,N,N,N,N,N,N,N,N,N,N]) (by kernel_rfl) (fun _ _ _ _ h=>h) R (does_field_elem (ja R) fa_49_4) ?_
              refine AtH.take [0] hgd 5 R R R R (D':=#[Y,Y,Y,Y,Y,Y,N,N,N,N,N,N,N,N,N,N,N,N,N,N]) (by kernel_rfl) (fun _ _ _ _ h=>h) R (Jc (ja R) 0 R i6 6 R vz hq726 sub_ref13_Border_4 ty_41) ?_
              refine AtH.take [0] hgd 6 R R R R (D':=#[Y,Y,Y,Y,Y,Y,Y,N,N,N,N,N,N,N,N,N,N,N,N,N]) (by kernel_rfl) (fun _ _ _ _ h=>h) R (jb (x:=(.tv (kInt .i64) x90)) (ja R)) ?_
              refine AtH.take [0] hgd 7 R R R R (D':=#[Y,Y,Y,Y,Y,Y,Y,Y,N,N,N,N,N,N,N,N,N,N,N,N]) (by kernel_rfl) (fun _ _ _ _ h=>h) R (vf (⟨#[]⟩:BA) (ja R) (ja R) Tryz.underlying41 ty_9 hq727) ?_
              refine AtH.take [0] hgd 8 R R R R (D':=#[Y,Y,Y,Y,Y,Y,Y,Y,Y,N,N,N,N,N,N,N,N,N,N,N]) (by kernel_rfl) (fun _ _ _ _ h=>h) R (vq (K:=kStr) (ja R) ty_9) ?_
              refine AtH.take [0] hgd 9 R R R R (D':=#[Y,Y,Y,Y,Y,Y,Y,Y,Y,Y,N,N,N,N,N,N,N,N,N,N]) (by kernel_rfl) (fun _ _ _ _ h=>h) R (jb (x:=(.eq v1)) (ja R)) ?_
              refine AtH.take [0] hgd 10 R R R R (D':=#[Y,Y,Y,Y,Y,Y,Y,Y,Y,Y,Y,N,N,N,N,N,N,N,N,N]) (by kernel_rfl) (fun _ _ _ _ h=>h) R (jb (x:=(.tv (kInt .i64) k39)) (ja R)) ?_
              refine AtH.take [0] hgd 11 R R R R (D':=#[Y,Y,Y,Y,Y,Y,Y,Y,Y,Y,Y,Y,N,N,N,N,N,N,N,N]) (by kernel_rfl) (fun _ _ _ _ h=>h) R (does_idx_row (ja R) 0 R (ja R) Tryz.underlying45 ty_49 hq728) ?_
              refine AtH.take [0] hgd 12 R R R R (D':=#[Y,Y,Y,Y,Y,Y,Y,Y,Y,Y,Y,Y,Y,N,N,N,N,N,N,N]) (by kernel_rfl) (fun _ _ _ _ h=>h) R (does_field_elem (ja R) fa_49_4) ?_
              refine AtH.take [0] hgd 13 R R R R (D':=#[Y,Y,Y,Y,Y,Y,Y,Y,Y,Y,Y,Y,Y,Y,N,N,N,N,N,N]) (by kernel_rfl) (fun _ _ _ _ h=>h) R (Jc (ja R) 0 R k39 6 R vz hq728 sub_ref13_Border_4 ty_41) ?_
              refine AtH.take [0] hgd 14 R R R R (D':=#[Y,Y,Y,Y,Y,Y,Y,Y,Y,Y,Y,Y,Y,Y,Y,N,N,N,N,N]) (by kernel_rfl) (fun _ _ _ _ h=>h) R (jb (x:=(.tv (kInt .i64) y102)) (ja R)) ?_
              refine AtH.take [0] hgd 15 R R R R (D':=#[Y,Y,Y,Y,Y,Y,Y,Y,Y,Y,Y,Y,Y,Y,Y,Y,N,N,N,N]) (by kernel_rfl) (fun _ _ _ _ h=>h) R (vf (⟨#[]⟩:BA) (ja R) (ja R) Tryz.underlying41 ty_9 hq729) ?_
              refine AtH.take [0] hgd 16 R R R R (D':=#[Y,Y,Y,Y,Y,Y,Y,Y,Y,Y,Y,Y,Y,Y,Y,Y,Y,N,N,N]) (by kernel_rfl) (fun _ _ _ _ h=>h) R (vq (K:=kStr) (ja R) ty_9) ?_
              refine AtH.all1 17 (by kernel_rfl) ?_
              refine AtH.f [(0,0)] R R R R R R (jo R R (jq R en_44 (jf (ja R) (jf (ja R) jg))) [] R (ref13_cross.ok hF)) (D':=#[Y,Y,Y,Y,Y,Y,Y,Y,Y,Y,Y,Y,Y,Y,Y,Y,Y,Y,N,N]) (by kernel_rfl) (by kernel_rfl) ?_
              rintro _ _ ⟨_,_,⟨r229,hF,rfl,rfl⟩,rfl,rfl⟩
              refine ⟨.any,.inl R,?_⟩
              replace hF:=W.vm hF
              refine AtH.all1 18 (by kernel_rfl) ?_
              refine AtH.f [(0,0)] R R R R R R (jo R R (jq R en_43 (jf (ja R) (jf (ja R) jg))) [] R (ref13_Add.ok hF)) (D':=#[Y,Y,Y,Y,Y,Y,Y,Y,Y,Y,Y,Y,Y,Y,Y,Y,Y,Y,Y,N]) (by kernel_rfl) (by kernel_rfl) ?_
              rintro _ _ ⟨_,_,⟨r230,hF,rfl,rfl⟩,rfl,rfl⟩
              refine ⟨.any,.inl R,?_⟩
              refine AtH.all1 19 (by kernel_rfl) ?_
              refine AtH.f [(0,0)] R R R R R R (eff_does R R R (jd (x:=(.tv (kSlice kViolation) r230)) (ja R))) (D':=#[Y,Y,Y,Y,Y,Y,Y,Y,Y,Y,Y,Y,Y,Y,Y,Y,Y,Y,Y,Y]) (by kernel_rfl) (by kernel_rfl) ?_
              rintro _ _ ⟨rfl,rfl⟩
              refine ⟨.any,.inl R,?_⟩
              refine AtH.done (by kernel_rfl) ?_
              refine At.n ?_
              refine At.vh (At.region (At.d R R R R (jb (x:=(.tv (kInt .i64) y102)) (ja R)) ?_))
              refine At.d R R R R (jk (ja R) (ji _ _) vc) ?_
              refine At.d R R R R (jd (x:=(.tv (kInt .i64) (w64 (y102+(1:Int))))) (ja R)) ?_
              refine At.done (At.vh ?_)
              refine At.w [0] R [(3,(.tv (kSlice kViolation) r230)),(4,(.eq v1)),(5,(.tv (kInt .i64) i6)),(6,(.tv (kInt .i64) k39)),(7,(.tv (kInt .i64) x90)),(8,(.tv (kInt .i64) (w64 (y102+(1:Int)))))] ⟨R,R,R,R,R,R,trivial⟩ (At.r ⟨r230,(w64 (y102+(1:Int))),hF,R,R⟩)
             ·replace hF:=W.ite_f hb193 hF
              refine At.exit ?_
              refine At.x (At.x ?_)
              refine At.h ?_
              refine At.n ?_
              refine At.vh ?_
              refine At.w [0] R [(3,(.tv (kSlice kViolation) out310)),(4,(.eq v1)),(5,(.tv (kInt .i64) i6)),(6,(.tv (kInt .i64) k39)),(7,(.tv (kInt .i64) x90))] ⟨R,R,R,R,R,trivial⟩ (At.r ⟨out310,hF,R,R⟩)
           ·rintro _ _ ⟨out307,hF,rfl,rfl⟩
            unfold ref13_Check.c6 at hF
            refine At.region (At.d R R R R (jb (x:=(.tv (kInt .i64) x90)) (ja R)) ?_)
            refine At.d R R R R (jk (ja R) (ji _ _) vc) ?_
            refine At.d R R R R (jd (x:=(.tv (kInt .i64) (w64 (x90+(1:Int))))) (ja R)) ?_
            refine At.done (At.vh ?_)
            refine At.w [0] R [(3,(.tv (kSlice kViolation) out307)),(4,(.eq v1)),(5,(.tv (kInt .i64) i6)),(6,(.tv (kInt .i64) k39)),(7,(.tv (kInt .i64) (w64 (x90+(1:Int)))))] ⟨R,R,R,R,R,trivial⟩ (At.r ⟨out307,(w64 (x90+(1:Int))),hF,R,R⟩)
          ·replace hF:=W.ite_f hb188 hF
           refine At.exit ?_
           refine At.x (At.x ?_)
           refine At.h ?_
           refine At.n ?_
           refine At.vh ?_
           refine At.w [0] R [(3,(.tv (kSlice kViolation) out303)),(4,(.eq v1)),(5,(.tv (kInt .i64) i6)),(6,(.tv (kInt .i64) k39))] ⟨R,R,R,R,trivial⟩ (At.r ⟨out303,hF,R,R⟩)
        ·rintro _ _ ⟨out292,hF,rfl,rfl⟩
         unfold ref13_Check.c5 at hF
         refine At.region (At.d R R R R (jb (x:=(.tv (kInt .i64) k39)) (ja R)) ?_)
         refine At.d R R R R (jk (ja R) (ji _ _) vc) ?_
         refine At.d R R R R (jd (x:=(.tv (kInt .i64) (w64 (k39+(1:Int))))) (ja R)) ?_
         refine At.done (At.vh ?_)
         refine At.w [0] R [(3,(.tv (kSlice kViolation) out292)),(4,(.eq v1)),(5,(.tv (kInt .i64) i6)),(6,(.tv (kInt .i64) (w64 (k39+(1:Int)))))] ⟨R,R,R,R,trivial⟩ (At.r ⟨out292,(w64 (k39+(1:Int))),hF,R,R⟩)
       ·replace hF:=W.ite_f hb175 hF
        refine At.exit ?_
        refine At.x (At.x ?_)
        refine At.h ?_
        refine At.vh ?_
        refine At.w [0] R [(3,(.tv (kSlice kViolation) out280)),(4,(.eq v1)),(5,(.tv (kInt .i64) i6))] ⟨R,R,R,trivial⟩ (At.r ⟨out280,hF,R,R⟩)
     ·rintro _ _ ⟨out235,hF,rfl,rfl⟩
      unfold ref13_Check.c3 at hF
      refine At.seq (At.region (At.d R R R R (jd (x:=(.tv (kInt .i64) (0:Int))) (ji _ _)) ?_))
      refine At.done (At.vh (At.block ?_))
      obtain ⟨n2,hF⟩:=hF
      refine At.w [0] R [(3,(.tv (kSlice kViolation) out235)),(4,(.eq v1)),(5,(.tv (kInt .i64) i6)),(9,(.tv (kInt .i64) (0:Int)))] ⟨R,R,R,R,trivial⟩ ?_
      refine At.loop (fun m rs L=>∃ (out246:(List Violation)) (k36:Int),W.iter2 (ref13_Check.l2 r1 i6 (ref13_Check.c2 i6 (W.iter2 (ref13_Check.l1 r1 (ref13_Check.c1)) m2))) m out246 k36 Q∧rs=[.row v1 49 kref13_Border r1]∧L=mkL [(3,(.tv (kSlice kViolation) out246)),(4,(.eq v1)),(5,(.tv (kInt .i64) i6)),(9,(.tv (kInt .i64) k36))]) ?_ ?_ (m:=n2) ⟨out235,(0:Int),hF,R,R⟩
      ·rintro rs L ⟨_,_,hF,_,_⟩;exact hF
      ·rintro m3 _ _ ⟨out246,k36,hF,rfl,rfl⟩
       replace hF:=W.iter2_s hF
       unfold ref13_Check.l2 at hF
       refine At.seq (At.seq (At.region (At.d R R R R (jb (x:=(.tv (kInt .i64) k36)) (ja R)) ?_)))
       refine At.d R R R R (jb (x:=(.tv (kInt .i64) i6)) (ja R)) ?_
       refine At.d R R R R (jk (ja R) (ja R) bin_leq) ?_
       refine At.done (At.vh ?_)
       refine At.cond (ja R) (fun hb150=>?_) (fun hb150=>?_)
       ·replace hF:=W.ite_t hb150 hF
        refine At.skip (At.vh ?_)
        refine At.cut (fun rs L=>∃ (out250:(List Violation)),ref13_Check.c4 k36 (W.iter2 (ref13_Check.l2 r1 i6 (ref13_Check.c2 i6 (W.iter2 (ref13_Check.l1 r1 (ref13_Check.c1)) m2))) m3) out250 Q∧rs=[.row v1 49 kref13_Border r1]∧L=mkL [(3,(.tv (kSlice kViolation) out250)),(4,(.eq v1)),(5,(.tv (kInt .i64) i6)),(9,(.tv (kInt .i64) k36))]) ?_ ?_
        ·refine At.block (At.seq ?_)
         refine At.draw mixed [0] R [[]] (fun φ w hgd=>?_)
         obtain ⟨hq555,hF⟩:=hF
         refine AtH.take [0] hgd 0 R R R R (D':=#[Y,N,N,N,N,N,N,N,N,N,N,N]) (by kernel_rfl) (fun _ _ _ _ h=>h) R (jb (x:=(.eq v1)) (ja R)) ?_
         refine AtH.take [0] hgd 1 R R R R (D':=#[Y,Y,N,N,N,N,N,N,N,N,N,N]) (by kernel_rfl) (fun _ _ _ _ h=>h) R (jb (x:=(.tv (kInt .i64) i6)) (ja R)) ?_
         refine AtH.take [0] hgd 2 R R R R (D':=#[Y,Y,Y,N,N,N,N,N,N,N,N,N]) (by kernel_rfl) (fun _ _ _ _ h=>h) R (does_idx_row (ja R) 0 R (ja R) Tryz.underlying45 ty_49 hq555) ?_
         refine AtH.take [0] hgd 3 R R R R (D':=#[Y,Y,Y,Y,N,N,N,N,N,N,N,N]) (by kernel_rfl) (fun _ _ _ _ h=>h) R (does_field_elem (ja R) fa_49_0) ?_
         refine AtH.take [0] hgd 4 R R R R (D':=#[Y,Y,Y,Y,Y,N,N,N,N,N,N,N]) (by kernel_rfl) (fun _ _ _ _ h=>h) R (Jc (ja R) 0 R i6 0 R vz hq555 sub_ref13_Border_0 ty_9) ?_
         refine AtH.take [0] hgd 5 R R R R (D':=#[Y,Y,Y,Y,Y,Y,N,N,N,N,N,N]) (by kernel_rfl) (fun _ _ _ _ h=>h) R (jb (x:=(.eq v1)) (ja R)) ?_
         refine AtH.take [0] hgd 6 R R R R (D':=#[Y,Y,Y,Y,Y,Y,Y,N,N,N,N,N]) (by kernel_rfl) (fun _ _ _ _ h=>h) R (jb (x:=(.tv (kInt .i64) i6)) (ja R)) ?_
         refine AtH.take [0] hgd 7 R R R R (D':=#[Y,Y,Y,Y,Y,Y,Y,Y,N,N,N,N]) (by kernel_rfl) (fun _ _ _ _ h=>h) R (does_idx_row (ja R) 0 R (ja R) Tryz.underlying45 ty_49 hq555) ?_
         refine AtH.take [0] hgd 8 R R R R (D':=#[Y,Y,Y,Y,Y,Y,Y,Y,Y,N,N,N]) (by kernel_rfl) (fun _ _ _ _ h=>h) R (does_field_elem (ja R) fa_49_1) ?_
         refine AtH.take [0] hgd 9 R R R R (D':=#[Y,Y,Y,Y,Y,Y,Y,Y,Y,Y,N,N]) (by kernel_rfl) (fun _ _ _ _ h=>h) R (Jc (ja R) 0 R i6 1 R vz hq555 sub_ref13_Border_1 ty_9) ?_
         refine AtH.all1 10 (by kernel_rfl) ?_
         refine AtH.f [(0,0)] R R R R R R (jy R R R (os:=[.tmp 88,.tmp 93]) R sl_41 (xs:=([(rd vz r1 i6).A,(rd vz r1 i6).B]:List BA)) (jf (ja R) (jf (ja R) jg)) R R) (D':=#[Y,Y,Y,Y,Y,Y,Y,Y,Y,Y,Y,N]) (by kernel_rfl) (by kernel_rfl) ?_
         rintro _ _ ⟨v107,rfl,rfl⟩
         refine ⟨_,.inr ⟨R,flat_eq⟩,?_⟩
         refine AtH.take [0] hgd 11 R R R R (D':=#[Y,Y,Y,Y,Y,Y,Y,Y,Y,Y,Y,Y]) (by kernel_rfl) (fun _ _ _ _ h=>h) R (jd (x:=(.eq v107)) (ja R)) ?_
         refine AtH.done (by kernel_rfl) ?_
         refine At.vh (At.seq ?_)
         refine At.draw mixed [0,1] R [[],[]] (fun φ w hgd=>?_)
         obtain ⟨hq556,hF⟩:=hF
         refine AtH.take [0,1] hgd 0 R R R R (D':=#[Y,N,N,N,N,N,N,N,N,N,N,N]) (by kernel_rfl) (fun _ _ _ _ h=>h) R (jb (x:=(.eq v1)) (ja R)) ?_
         refine AtH.take [0,1] hgd 1 R R R R (D':=#[Y,Y,N,N,N,N,N,N,N,N,N,N]) (by kernel_rfl) (fun _ _ _ _ h=>h) R (jb (x:=(.tv (kInt .i64) k36)) (ja R)) ?_
         refine AtH.take [0,1] hgd 2 R R R R (D':=#[Y,Y,Y,N,N,N,N,N,N,N,N,N]) (by kernel_rfl) (fun _ _ _ _ h=>h) R (does_idx_row (ja R) 1 R (ja R) Tryz.underlying45 ty_49 hq556) ?_
         refine AtH.take [0,1] hgd 3 R R R R (D':=#[Y,Y,Y,Y,N,N,N,N,N,N,N,N]) (by kernel_rfl) (fun _ _ _ _ h=>h) R (does_field_elem (ja R) fa_49_0) ?_
         refine AtH.take [0,1] hgd 4 R R R R (D':=#[Y,Y,Y,Y,Y,N,N,N,N,N,N,N]) (by kernel_rfl) (fun _ _ _ _ h=>h) R (Jc (ja R) 1 R k36 0 R vz hq556 sub_ref13_Border_0 ty_9) ?_
         refine AtH.take [0,1] hgd 5 R R R R (D':=#[Y,Y,Y,Y,Y,Y,N,N,N,N,N,N]) (by kernel_rfl) (fun _ _ _ _ h=>h) R (jb (x:=(.eq v1)) (ja R)) ?_
         refine AtH.take [0,1] hgd 6 R R R R (D':=#[Y,Y,Y,Y,Y,Y,Y,N,N,N,N,N]) (by kernel_rfl) (fun _ _ _ _ h=>h) R (jb (x:=(.tv (kInt .i64) k36)) (ja R)) ?_
         refine AtH.take [0,1] hgd 7 R R R R (D':=#[Y,Y,Y,Y,Y,Y,Y,Y,N,N,N,N]) (by kernel_rfl) (fun _ _ _ _ h=>h) R (does_idx_row (ja R) 1 R (ja R) Tryz.underlying45 ty_49 hq556) ?_
         refine AtH.take [0,1] hgd 8 R R R R (D':=#[Y,Y,Y,Y,Y,Y,Y,Y,Y,N,N,N]) (by kernel_rfl) (fun _ _ _ _ h=>h) R (does_field_elem (ja R) fa_49_1) ?_
         refine AtH.take [0,1] hgd 9 R R R R (D':=#[Y,Y,Y,Y,Y,Y,Y,Y,Y,Y,N,N]) (by kernel_rfl) (fun _ _ _ _ h=>h) R (Jc (ja R) 1 R k36 1 R vz hq556 sub_ref13_Border_1 ty_9) ?_
         refine AtH.all1 10 (by kernel_rfl) ?_
         refine AtH.f [(0,0),(1,1)] R R R R R R (jy R R R (os:=[.tmp 99,.tmp 104]) R sl_41 (xs:=([(rd vz r1 k36).A,(rd vz r1 k36).B]:List BA)) (jf (ja R) (jf (ja R) jg)) R R) (D':=#[Y,Y,Y,Y,Y,Y,Y,Y,Y,Y,Y,N]) (by kernel_rfl) (by kernel_rfl) ?_
         rintro _ _ ⟨v109,rfl,rfl⟩
         refine ⟨_,.inr ⟨R,flat_eq⟩,?_⟩
         refine AtH.take [0,1] hgd 11 R R R R (D':=#[Y,Y,Y,Y,Y,Y,Y,Y,Y,Y,Y,Y]) (by kernel_rfl) (fun _ _ _ _ h=>h) R (jd (x:=(.eq v109)) (ja R)) ?_
         refine AtH.done (by kernel_rfl) ?_
         refine At.vh (At.seq ?_)
         refine At.draw mixed [0,1,2] R [[],[],[]] (fun φ w hgd=>?_)
         obtain ⟨hq557,hF⟩:=hF
         refine AtH.take [0,1,2] hgd 0 R R R R (D':=#[Y,N,N,N,N,N,N,N,N,N,N,N]) (by kernel_rfl) (fun _ _ _ _ h=>h) R (jb (x:=(.eq v1)) (ja R)) ?_
         refine AtH.take [0,1,2] hgd 1 R R R R (D':=#[Y,Y,N,N,N,N,N,N,N,N,N,N]) (by kernel_rfl) (fun _ _ _ _ h=>h) R (jb (x:=(.tv (kInt .i64) i6)) (ja R)) ?_
         refine AtH.take [0,1,2] hgd 2 R R R R (D':=#[Y,Y,Y,N,N,N,N,N,N,N,N,N]) (by kernel_rfl) (fun _ _ _ _ h=>h) R (does_idx_row (ja R) 2 R (ja R) Tryz.underlying45 ty_49 hq557) ?_
         refine AtH.take [0,1,2] hgd 3 R R R R (D':=#[Y,Y,Y,Y,N,N,N,N,N,N,N,N]) (by kernel_rfl) (fun _ _ _ _ h=>h) R (does_field_elem (ja R) fa_49_2) ?_
         refine AtH.take [0,1,2] hgd 4 R R R R (D':=#[Y,Y,Y,Y,Y,N,N,N,N,N,N,N]) (by kernel_rfl) (fun _ _ _ _ h=>h) R (Jc (ja R) 2 R i6 2 R vz hq557 sub_ref13_Border_2 ty_37) ?_
         refine AtH.take [0,1,2] hgd 5 R R R R (D':=#[Y,Y,Y,Y,Y,Y,N,N,N,N,N,N]) (by kernel_rfl) (fun _ _ _ _ h=>h) R (jb (x:=(.eq v1)) (ja R)) ?_
         refine AtH.take [0,1,2] hgd 6 R R R R (D':=#[Y,Y,Y,Y,Y,Y,Y,N,N,N,N,N]) (by kernel_rfl) (fun _ _ _ _ h=>h) R (jb (x:=(.tv (kInt .i64) i6)) (ja R)) ?_
         refine AtH.take [0,1,2] hgd 7 R R R R (D':=#[Y,Y,Y,Y,Y,Y,Y,Y,N,N,N,N]) (by kernel_rfl) (fun _ _ _ _ h=>h) R (does_idx_row (ja R) 2 R (ja R) Tryz.underlying45 ty_49 hq557) ?_
         refine AtH.take [0,1,2] hgd 8 R R R R (D':=#[Y,Y,Y,Y,Y,Y,Y,Y,Y,N,N,N]) (by kernel_rfl) (fun _ _ _ _ h=>h) R (does_field_elem (ja R) fa_49_3) ?_
         refine AtH.take [0,1,2] hgd 9 R R R R (D':=#[Y,Y,Y,Y,Y,Y,Y,Y,Y,Y,N,N]) (by kernel_rfl) (fun _ _ _ _ h=>h) R (Jc (ja R) 2 R i6 4 R vz hq557 sub_ref13_Border_3 ty_37) ?_
         refine AtH.all1 10 (by kernel_rfl) ?_
         refine AtH.f [(0,0),(1,1),(2,2)] R R R R R R (jy R R R (os:=[.tmp 110,.tmp 115]) R sl_68 (xs:=([(rd vz r1 i6).P,(rd vz r1 i6).Q]:List Point)) (jf (ja R) (jf (ja R) jg)) R R) (D':=#[Y,Y,Y,Y,Y,Y,Y,Y,Y,Y,Y,N]) (by kernel_rfl) (by kernel_rfl) ?_
         rintro _ _ ⟨v111,rfl,rfl⟩
         refine ⟨_,.inr ⟨R,flat_eq⟩,?_⟩
         refine AtH.take [0,1,2] hgd 11 R R R R (D':=#[Y,Y,Y,Y,Y,Y,Y,Y,Y,Y,Y,Y]) (by kernel_rfl) (fun _ _ _ _ h=>h) R (jd (x:=(.eq v111)) (ja R)) ?_
         refine AtH.done (by kernel_rfl) ?_
         refine At.vh (At.seq ?_)
         refine At.draw mixed [0,1,2,3] R [[],[],[],[]] (fun φ w hgd=>?_)
         obtain ⟨hq558,hF⟩:=hF
         refine AtH.take [0,1,2,3] hgd 0 R R R R (D':=#[Y,N,N,N,N,N,N,N,N,N,N,N]) (by kernel_rfl) (fun _ _ _ _ h=>h) R (jb (x:=(.eq v1)) (ja R)) ?_
         refine AtH.take [0,1,2,3] hgd 1 R R R R (D':=#[Y,Y,N,N,N,N,N,N,N,N,N,N]) (by kernel_rfl) (fun _ _ _ _ h=>h) R (jb (x:=(.tv (kInt .i64) k36)) (ja R)) ?_
         refine AtH.take [0,1,2,3] hgd 2 R R R R (D':=#[Y,Y,Y,N,N,N,N,N,N,N,N,N]) (by kernel_rfl) (fun _ _ _ _ h=>h) R (does_idx_row (ja R) 3 R (ja R) Tryz.underlying45 ty_49 hq558) ?_
         refine AtH.take [0,1,2,3] hgd 3 R R R R (D':=#[Y,Y,Y,Y,N,N,N,N,N,N,N,N]) (by kernel_rfl) (fun _ _ _ _ h=>h) R (does_field_elem (ja R) fa_49_2) ?_
         refine AtH.take [0,1,2,3] hgd 4 R R R R (D':=#[Y,Y,Y,Y,Y,N,N,N,N,N,N,N]) (by kernel_rfl) (fun _ _ _ _ h=>h) R (Jc (ja R) 3 R k36 2 R vz hq558 sub_ref13_Border_2 ty_37) ?_
         refine AtH.take [0,1,2,3] hgd 5 R R R R (D':=#[Y,Y,Y,Y,Y,Y,N,N,N,N,N,N]) (by kernel_rfl) (fun _ _ _ _ h=>h) R (jb (x:=(.eq v1)) (ja R)) ?_
         refine AtH.take [0,1,2,3] hgd 6 R R R R (D':=#[Y,Y,Y,Y,Y,Y,Y,N,N,N,N,N]) (by kernel_rfl) (fun _ _ _ _ h=>h) R (jb (x:=(.tv (kInt .i64) k36)) (ja R)) ?_
         refine AtH.take [0,1,2,3] hgd 7 R R R R (D':=#[Y,Y,Y,Y,Y,Y,Y,Y,N,N,N,N]) (by kernel_rfl) (fun _ _ _ _ h=>h) R (does_idx_row (ja R) 3 R (ja R) Tryz.underlying45 ty_49 hq558) ?_
         refine AtH.take [0,1,2,3] hgd 8 R R R R (D':=#[Y,Y,Y,Y,Y,Y,Y,Y,Y,N,N,N]) (by kernel_rfl) (fun _ _ _ _ h=>h) R (does_field_elem (ja R) fa_49_3) ?_
         refine AtH.take [0,1,2,3] hgd 9 R R R R (D':=#[Y,Y,Y,Y,Y,Y,Y,Y,Y,Y,N,N]) (by kernel_rfl) (fun _ _ _ _ h=>h) R (Jc (ja R) 3 R k36 4 R vz hq558 sub_ref13_Border_3 ty_37) ?_
         refine AtH.all1 10 (by kernel_rfl) ?_
         refine AtH.f [(0,0),(1,1),(2,2),(3,3)] R R R R R R (jy R R R (os:=[.tmp 121,.tmp 126]) R sl_68 (xs:=([(rd vz r1 k36).P,(rd vz r1 k36).Q]:List Point)) (jf (ja R) (jf (ja R) jg)) R R) (D':=#[Y,Y,Y,Y,Y,Y,Y,Y,Y,Y,Y,N]) (by kernel_rfl) (by kernel_rfl) ?_
         rintro _ _ ⟨v113,rfl,rfl⟩
         refine ⟨_,.inr ⟨R,flat_eq⟩,?_⟩
         refine AtH.take [0,1,2,3] hgd 11 R R R R (D':=#[Y,Y,Y,Y,Y,Y,Y,Y,Y,Y,Y,Y]) (by kernel_rfl) (fun _ _ _ _ h=>h) R (jd (x:=(.eq v113)) (ja R)) ?_
         refine AtH.done (by kernel_rfl) ?_
         refine At.vh (At.seq (At.region (At.d R R R R (jd (x:=(.tv (kInt .i64) (0:Int))) (ji _ _)) ?_)))
         refine At.done (At.vh (At.block ?_))
         obtain ⟨n1,hF⟩:=hF
         refine At.w [4,3,2,1,0] R [(3,(.tv (kSlice kViolation) out246)),(4,(.eq v1)),(5,(.tv (kInt .i64) i6)),(9,(.tv (kInt .i64) k36)),(10,(.eq v107)),(11,(.eq v109)),(12,(.eq v111)),(13,(.eq v113)),(14,(.tv (kInt .i64) (0:Int)))] ⟨R,R,R,R,R,R,R,R,R,trivial⟩ ?_
         refine At.loop (fun m rs L=>∃ (out253:(List Violation)) (x78:Int),W.iter2 (ref13_Check.l3 r1 i6 k36 (ref13_Check.c4 k36 (W.iter2 (ref13_Check.l2 r1 i6 (ref13_Check.c2 i6 (W.iter2 (ref13_Check.l1 r1 (ref13_Check.c1)) m2))) m3))) m out253 x78 Q∧rs=[.row v1 49 kref13_Border r1,.row v107 9 kStr ([(rd vz r1 i6).A,(rd vz r1 i6).B]:List BA),.row v109 9 kStr ([(rd vz r1 k36).A,(rd vz r1 k36).B]:List BA),.row v111 37 kPoint ([(rd vz r1 i6).P,(rd vz r1 i6).Q]:List Point),.row v113 37 kPoint ([(rd vz r1 k36).P,(rd vz r1 k36).Q]:List Point)]∧L=mkL [(3,(.tv (kSlice kViolation) out253)),(4,(.eq v1)),(5,(.tv (kInt .i64) i6)),(9,(.tv (kInt .i64) k36)),(10,(.eq v107)),(11,(.eq v109)),(12,(.eq v111)),(13,(.eq v113)),(14,(.tv (kInt .i64) x78))]) ?_ ?_ (m:=n1) ⟨out246,(0:Int),hF,R,R⟩
         ·rintro rs L ⟨_,_,hF,_,_⟩;exact hF
         ·rintro m4 _ _ ⟨out253,x78,hF,rfl,rfl⟩
          replace hF:=W.iter2_s hF
          unfold ref13_Check.l3 at hF
          refine At.seq (At.seq (At.region (At.d R R R R (jb (x:=(.tv (kInt .i64) x78)) (ja R)) ?_)))
          refine At.d R R R R (jk (ja R) (ji _ _) vd) ?_
          refine At.done (At.vh ?_)
          refine At.cond (ja R) (fun hb159=>?_) (fun hb159=>?_)
          ·replace hF:=W.ite_t hb159 hF
           refine At.skip (At.vh (At.seq (At.block (At.seq ?_))))
           refine At.draw mixed [0,1,2,3,4] R [[],[],[],[],[]] (fun φ w hgd=>?_)
           obtain ⟨hq571,hF⟩:=hF
           obtain ⟨hq572,hF⟩:=hF
           obtain ⟨hq573,hF⟩:=hF
           obtain ⟨hq574,hF⟩:=hF
           refine AtH.take [0,1,2,3,4] hgd 0 R R R R (D':=#[Y,N,N,N,N,N,N,N,N,N,N,N,N,N,N,N,N,N,N,N,N,N,N,N]) (by kernel_rfl) (fun _ _ _ _ h=>h) R (jb (x:=(.eq v107)) (ja R)) ?_
           refine AtH.take [0,1,2,3,4] hgd 1 R R R R (D':=#[Y,Y,N,N,N,N,N,N,N,N,N,N,N,N,N,N,N,N,N,N,N,N,N,N]) (by kernel_rfl) (fun _ _ _ _ h=>h) R (jb (x:=(.tv (kInt .i64) x78)) (ja R)) ?_
           refine AtH.take [0,1,2,3,4] hgd 2 R R R R (D':=#[Y,Y,Y,N,N,N,N,N,N,N,N,N,N,N,N,N,N,N,N,N,N,N,N,N]) (by kernel_rfl) (fun _ _ _ _ h=>h) R (jk (ja R) (ji _ _) (bin_rem (by decide))) ?_
           refine AtH.take [0,1,2,3,4] hgd 3 R R R R (D':=#[Y,Y,Y,Y,N,N,N,N,N,N,N,N,N,N,N,N,N,N,N,N,N,N,N,N]) (by kernel_rfl) (fun _ _ _ _ h=>h) R (does_idx_row (ja R) 1 R (ja R) Tryz.underlying41 ty_9 hq571) ?_
           refine AtH.take [0,1,2,3,4] hgd 4 R R R R (D':=#[Y,Y,Y,Y,Y,N,N,N,N,N,N,N,N,N,N,N,N,N,N,N,N,N,N,N]) (by kernel_rfl) (fun _ _ _ _ h=>h) R (Jc (ja R) 1 R (Int.tmod x78 (2:Int)) 0 R (⟨#[]⟩:BA) hq571 (Sub.self kStr) ty_9) ?_
           refine AtH.take [0,1,2,3,4] hgd 5 R R R R (D':=#[Y,Y,Y,Y,Y,Y,N,N,N,N,N,N,N,N,N,N,N,N,N,N,N,N,N,N]) (by kernel_rfl) (fun _ _ _ _ h=>h) R (jb (x:=(.eq v109)) (ja R)) ?_
           refine AtH.take [0,1,2,3,4] hgd 6 R R R R (D':=#[Y,Y,Y,Y,Y,Y,Y,N,N,N,N,N,N,N,N,N,N,N,N,N,N,N,N,N]) (by kernel_rfl) (fun _ _ _ _ h=>h) R (jb (x:=(.tv (kInt .i64) x78)) (ja R)) ?_
           refine AtH.take [0,1,2,3,4] hgd 7 R R R R (D':=#[Y,Y,Y,Y,Y,Y,Y,Y,N,N,N,N,N,N,N,N,N,N,N,N,N,N,N,N]) (by kernel_rfl) (fun _ _ _ _ h=>h) R (jk (ja R) (ji _ _) (bin_quo (by decide))) ?_
           refine AtH.take [0,1,2,3,4] hgd 8 R R R R (D':=#[Y,Y,Y,Y,Y,Y,Y,Y,Y,N,N,N,N,N,N,N,N,N,N,N,N,N,N,N]) (by kernel_rfl) (fun _ _ _ _ h=>h) R (does_idx_row (ja R) 2 R (ja R) Tryz.underlying41 ty_9 hq572) ?_
           refine AtH.take [0,1,2,3,4] hgd 9 R R R R (D':=#[Y,Y,Y,Y,Y,Y,Y,Y,Y,Y,N,N,N,N,N,N,N,N,N,N,N,N,N,N]) (by kernel_rfl) (fun _ _ _ _ h=>h) R (Jc (ja R) 2 R (w64 (Int.tdiv x78 (2:Int))) 0 R (⟨#[]⟩:BA) hq572 (Sub.self kStr) ty_9) ?_
           refine AtH.take [0,1,2,3,4] hgd 10 R R R R (D':=#[Y,Y,Y,Y,Y,Y,Y,Y,Y,Y,Y,N,N,N,N,N,N,N,N,N,N,N,N,N]) (by kernel_rfl) (fun _ _ _ _ h=>h) R (jk (ja R) (ja R) bin_sneq) ?_
           refine AtH.take [0,1,2,3,4] hgd 11 R R R R (D':=#[Y,Y,Y,Y,Y,Y,Y,Y,Y,Y,Y,Y,N,N,N,N,N,N,N,N,N,N,N,N]) (by kernel_rfl) (fun _ _ _ _ h=>h) R (jb (x:=(.tv kBool (!(sEq (rd (⟨#[]⟩:BA) ([(rd vz r1 i6).A,(rd vz r1 i6).B]:List BA) (Int.tmod x78 (2:Int))) (rd (⟨#[]⟩:BA) ([(rd vz r1 k36).A,(rd vz r1 k36).B]:List BA) (w64 (Int.tdiv x78 (2:Int)))))))) (ja R)) ?_
           refine AtH.vk [0,1,2,3,4] hgd 12 R R R (ju R) R R (D':=#[Y,Y,Y,Y,Y,Y,Y,Y,Y,Y,Y,Y,Y,N,N,N,N,N,N,N,N,N,N,N]) (by kernel_rfl) (fun _ _ _ _ h=>h) R (fun hg1084=>(jb (x:=(.eq v111)) (ja R))) ?_
           refine AtH.vk [0,1,2,3,4] hgd 13 R R R (ju R) R R (D':=#[Y,Y,Y,Y,Y,Y,Y,Y,Y,Y,Y,Y,Y,Y,N,N,N,N,N,N,N,N,N,N]) (by kernel_rfl) (fun _ _ _ _ h=>h) R (fun hg1085=>(jb (x:=(.tv (kInt .i64) x78)) (ja R))) ?_
           refine AtH.vk [0,1,2,3,4] hgd 14 R R R (ju R) R R (D':=#[Y,Y,Y,Y,Y,Y,Y,Y,Y,Y,Y,Y,Y,Y,Y,N,N,N,N,N,N,N,N,N]) (by kernel_rfl) (fun _ _ _ _ h=>h) R (fun hg1086=>(jk (jh R hg1086) (ji _ _) (bin_rem (by decide)))) ?_
           refine AtH.vk [0,1,2,3,4] hgd 15 R R R (ju R) R R (D':=#[Y,Y,Y,Y,Y,Y,Y,Y,Y,Y,Y,Y,Y,Y,Y,Y,N,N,N,N,N,N,N,N]) (by kernel_rfl) (fun _ _ _ _ h=>h) R (fun hg1087=>(does_idx_row (jh R hg1087) 3 R (jh R hg1087) Tryz.underlying68 ty_37 (hq573 hg1087))) ?_
           refine AtH.vk [0,1,2,3,4] hgd 16 R R R (ju R) R R (D':=#[Y,Y,Y,Y,Y,Y,Y,Y,Y,Y,Y,Y,Y,Y,Y,Y,Y,N,N,N,N,N,N,N]) (by kernel_rfl) (fun _ _ _ _ h=>h) R (fun hg1088=>(Jc (jh R hg1088) 3 R (Int.tmod x78 (2:Int)) 0 R zPoint (hq573 hg1088) (Sub.self kPoint) ty_37)) ?_
           refine AtH.vk [0,1,2,3,4] hgd 17 R R R (ju R) R R (D':=#[Y,Y,Y,Y,Y,Y,Y,Y,Y,Y,Y,Y,Y,Y,Y,Y,Y,Y,N,N,N,N,N,N]) (by kernel_rfl) (fun _ _ _ _ h=>h) R (fun hg1089=>(jb (x:=(.eq v113)) (ja R))) ?_
           refine AtH.vk [0,1,2,3,4] hgd 18 R R R (ju R) R R (D':=#[Y,Y,Y,Y,Y,Y,Y,Y,Y,Y,Y,Y,Y,Y,Y,Y,Y,Y,Y,N,N,N,N,N]) (by kernel_rfl) (fun _ _ _ _ h=>h) R (fun hg1090=>(jb (x:=(.tv (kInt .i64) x78)) (ja R))) ?_
           refine AtH.vk [0,1,2,3,4] hgd 19 R R R (ju R) R R (D':=#[Y,Y,Y,Y,Y,Y,Y,Y,Y,Y,Y,Y,Y,Y,Y,Y,Y,Y,Y,Y,N,N,N,N]) (by kernel_rfl) (fun _ _ _ _ h=>h) R (fun hg1091=>(jk (jh R hg1091) (ji _ _) (bin_quo (by decide)))) ?_
           refine AtH.vk [0,1,2,3,4] hgd 20 R R R (ju R) R R (D':=#[Y,Y,Y,Y,Y,Y,Y,Y,Y,Y,Y,Y,Y,Y,Y,Y,Y,Y,Y,Y,Y,N,N,N]) (by kernel_rfl) (fun _ _ _ _ h=>h) R (fun hg1092=>(does_idx_row (jh R hg1092) 4 R (jh R hg1092) Tryz.underlying68 ty_37 (hq574 hg1092))) ?_
           refine AtH.vk [0,1,2,3,4] hgd 21 R R R (ju R) R R (D':=#[Y,Y,Y,Y,Y,Y,Y,Y,Y,Y,Y,Y,Y,Y,Y,Y,Y,Y,Y,Y,Y,Y,N,N]) (by kernel_rfl) (fun _ _ _ _ h=>h) R (fun hg1093=>(Jc (jh R hg1093) 4 R (w64 (Int.tdiv x78 (2:Int))) 0 R zPoint (hq574 hg1093) (Sub.self kPoint) ty_37)) ?_
           refine AtH.vk [0,1,2,3,4] hgd 22 R R R (ju R) R R (D':=#[Y,Y,Y,Y,Y,Y,Y,Y,Y,Y,Y,Y,Y,Y,Y,Y,Y,Y,Y,Y,Y,Y,Y,N]) (by kernel_rfl) (fun _ _ _ _ h=>h) R (fun hg1094=>(jk (jh R hg1094) (jh R hg1094) (bin_eq eqty_37))) ?_
           refine AtH.take [0,1,2,3,4] hgd 23 R R R R (D':=#[Y,Y,Y,Y,Y,Y,Y,Y,Y,Y,Y,Y,Y,Y,Y,Y,Y,Y,Y,Y,Y,Y,Y,Y]) (by kernel_rfl) (fun _ _ _ _ h=>h) R (jm (ja R) (ja R) (jl _) ve) ?_
           refine AtH.done (by kernel_rfl) ?_
           refine At.vh ?_
           refine At.cond (ja R) (fun hb160=>?_) (fun hb160=>?_)
           ·replace hF:=W.ite_t hb160 hF
            refine At.draw mixed [0,1,2,3,4] R [[],[],[],[],[]] (fun φ w hgd=>?_)
            obtain ⟨hq575,hF⟩:=hF
            obtain ⟨hq576,hF⟩:=hF
            replace hF:=W.vm hF
            refine AtH.take [0,1,2,3,4] hgd 0 R R R R (D':=#[Y,N,N,N,N,N,N,N,N,N,N,N,N,N]) (by kernel_rfl) (fun _ _ _ _ h=>h) R (jb (x:=(.tv (kSlice kViolation) out253)) (ja R)) ?_
            refine AtH.take [0,1,2,3,4] hgd 1 R R R R (D':=#[Y,Y,N,N,N,N,N,N,N,N,N,N,N,N]) (by kernel_rfl) (fun _ _ _ _ h=>h) R (jb (x:=(.eq v107)) (ja R)) ?_
            refine AtH.take [0,1,2,3,4] hgd 2 R R R R (D':=#[Y,Y,Y,N,N,N,N,N,N,N,N,N,N,N]) (by kernel_rfl) (fun _ _ _ _ h=>h) R (jb (x:=(.tv (kInt .i64) x78)) (ja R)) ?_
            refine AtH.take [0,1,2,3,4] hgd 3 R R R R (D':=#[Y,Y,Y,Y,N,N,N,N,N,N,N,N,N,N]) (by kernel_rfl) (fun _ _ _ _ h=>h) R (jk (ja R) (ji _ _) (bin_rem (by decide))) ?_
            refine AtH.take [0,1,2,3,4] hgd 4 R R R R (D':=#[Y,Y,Y,Y,Y,N,N,N,N,N,N,N,N,N]) (by kernel_rfl) (fun _ _ _ _ h=>h) R (does_idx_row (ja R) 1 R (ja R) Tryz.underlying41 ty_9 hq575) ?_
            refine AtH.take [0,1,2,3,4] hgd 5 R R R R (D':=#[Y,Y,Y,Y,Y,Y,N,N,N,N,N,N,N,N]) (by kernel_rfl) (fun _ _ _ _ h=>h) R (Jc (ja R) 1 R (Int.tmod x78 (2:Int)) 0 R (⟨#[]⟩:BA) hq575 (Sub.self kStr) ty_9) ?_
            refine AtH.take [0,1,2,3,4] hgd 6 R R R R (D':=#[Y,Y,Y,Y,Y,Y,Y,N,N,N,N,N,N,N]) (by kernel_rfl) (fun _ _ _ _ h=>h) R (jb (x:=(.eq v109)) (ja R)) ?_
            refine AtH.take [0,1,2,3,4] hgd 7 R R R R (D':=#[Y,Y,Y,Y,Y,Y,Y,Y,N,N,N,N,N,N]) (by kernel_rfl) (fun _ _ _ _ h=>h) R (jb (x:=(.tv (kInt .i64) x78)) (ja R)) ?_
            refine AtH.take [0,1,2,3,4] hgd 8 R R R R (D':=#[Y,Y,Y,Y,Y,Y,Y,Y,Y,N,N,N,N,N]) (by kernel_rfl) (fun _ _ _ _ h=>h) R (jk (ja R) (ji _ _) (bin_quo (by decide))) ?_
            refine AtH.take [0,1,2,3,4] hgd 9 R R R R (D':=#[Y,Y,Y,Y,Y,Y,Y,Y,Y,Y,N,N,N,N]) (by kernel_rfl) (fun _ _ _ _ h=>h) R (does_idx_row (ja R) 2 R (ja R) Tryz.underlying41 ty_9 hq576) ?_
            refine AtH.take [0,1,2,3,4] hgd 10 R R R R (D':=#[Y,Y,Y,Y,Y,Y,Y,Y,Y,Y,Y,N,N,N]) (by kernel_rfl) (fun _ _ _ _ h=>h) R (Jc (ja R) 2 R (w64 (Int.tdiv x78 (2:Int))) 0 R (⟨#[]⟩:BA) hq576 (Sub.self kStr) ty_9) ?_
            refine AtH.all1 11 (by kernel_rfl) ?_
            refine AtH.f [(0,0),(1,1),(2,2),(3,3),(4,4)] R R R R R R (jo R R (jq R en_44 (jf (ja R) (jf (ja R) jg))) [] R (ref13_cross.ok hF)) (D':=#[Y,Y,Y,Y,Y,Y,Y,Y,Y,Y,Y,Y,N,N]) (by kernel_rfl) (by kernel_rfl) ?_
            rintro _ _ ⟨_,_,⟨r178,hF,rfl,rfl⟩,rfl,rfl⟩
            refine ⟨.any,.inl R,?_⟩
            replace hF:=W.vm hF
            refine AtH.all1 12 (by kernel_rfl) ?_
            refine AtH.f [(0,0),(1,1),(2,2),(3,3),(4,4)] R R R R R R (jo R R (jq R en_43 (jf (ja R) (jf (ja R) jg))) [] R (ref13_Add.ok hF)) (D':=#[Y,Y,Y,Y,Y,Y,Y,Y,Y,Y,Y,Y,Y,N]) (by kernel_rfl) (by kernel_rfl) ?_
            rintro _ _ ⟨_,_,⟨r179,hF,rfl,rfl⟩,rfl,rfl⟩
            refine ⟨.any,.inl R,?_⟩
            refine AtH.all1 13 (by kernel_rfl) ?_
            refine AtH.f [(0,0),(1,1),(2,2),(3,3),(4,4)] R R R R R R (eff_does R R R (jd (x:=(.tv (kSlice kViolation) r179)) (ja R))) (D':=#[Y,Y,Y,Y,Y,Y,Y,Y,Y,Y,Y,Y,Y,Y]) (by kernel_rfl) (by kernel_rfl) ?_
            rintro _ _ ⟨rfl,rfl⟩
            refine ⟨.any,.inl R,?_⟩
            refine AtH.done (by kernel_rfl) ?_
            refine At.n ?_
            refine At.vh (At.region (At.d R R R R (jb (x:=(.tv (kInt .i64) x78)) (ja R)) ?_))
            refine At.d R R R R (jk (ja R) (ji _ _) vc) ?_
            refine At.d R R R R (jd (x:=(.tv (kInt .i64) (w64 (x78+(1:Int))))) (ja R)) ?_
            refine At.done (At.vh ?_)
            refine At.w [0,1,2,3,4] R [(3,(.tv (kSlice kViolation) r179)),(4,(.eq v1)),(5,(.tv (kInt .i64) i6)),(9,(.tv (kInt .i64) k36)),(10,(.eq v107)),(11,(.eq v109)),(12,(.eq v111)),(13,(.eq v113)),(14,(.tv (kInt .i64) (w64 (x78+(1:Int)))))] ⟨R,R,R,R,R,R,R,R,R,trivial⟩ (At.r ⟨r179,(w64 (x78+(1:Int))),hF,R,R⟩)
           ·replace hF:=W.ite_f hb160 hF
            refine At.skip ?_
            refine At.n ?_
            refine At.vh (At.region (At.d R R R R (jb (x:=(.tv (kInt .i64) x78)) (ja R)) ?_))
            refine At.d R R R R (jk (ja R) (ji _ _) vc) ?_
            refine At.d R R R R (jd (x:=(.tv (kInt .i64) (w64 (x78+(1:Int))))) (ja R)) ?_
            refine At.done (At.vh ?_)
            refine At.w [0,1,2,3,4] R [(3,(.tv (kSlice kViolation) out253)),(4,(.eq v1)),(5,(.tv (kInt .i64) i6)),(9,(.tv (kInt .i64) k36)),(10,(.eq v107)),(11,(.eq v109)),(12,(.eq v111)),(13,(.eq v113)),(14,(.tv (kInt .i64) (w64 (x78+(1:Int)))))] ⟨R,R,R,R,R,R,R,R,R,trivial⟩ (At.r ⟨out253,(w64 (x78+(1:Int))),hF,R,R⟩)
          ·replace hF:=W.ite_f hb159 hF
           refine At.exit ?_
           refine At.x (At.x ?_)
           refine At.h ?_
           refine At.n ?_
           refine At.vh ?_
           refine At.w [0] R [(3,(.tv (kSlice kViolation) out253)),(4,(.eq v1)),(5,(.tv (kInt .i64) i6)),(9,(.tv (kInt .i64) k36))] ⟨R,R,R,R,trivial⟩ (At.r ⟨out253,hF,R,R⟩)
        ·rintro _ _ ⟨out250,hF,rfl,rfl⟩
         unfold ref13_Check.c4 at hF
         refine At.region (At.d R R R R (jb (x:=(.tv (kInt .i64) k36)) (ja R)) ?_)
         refine At.d R R R R (jk (ja R) (ji _ _) vc) ?_
         refine At.d R R R R (jd (x:=(.tv (kInt .i64) (w64 (k36+(1:Int))))) (ja R)) ?_
         refine At.done (At.vh ?_)
         refine At.w [0] R [(3,(.tv (kSlice kViolation) out250)),(4,(.eq v1)),(5,(.tv (kInt .i64) i6)),(9,(.tv (kInt .i64) (w64 (k36+(1:Int)))))] ⟨R,R,R,R,trivial⟩ (At.r ⟨out250,(w64 (k36+(1:Int))),hF,R,R⟩)
       ·replace hF:=W.ite_f hb150 hF
        refine At.exit ?_
        refine At.x (At.x ?_)
        refine At.h ?_
        refine At.n ?_
        refine At.vh ?_
        refine At.w [0] R [(3,(.tv (kSlice kViolation) out246)),(4,(.eq v1)),(5,(.tv (kInt .i64) i6))] ⟨R,R,R,trivial⟩ (At.r ⟨out246,hF,R,R⟩)
    ·rintro _ _ ⟨out207,hF,rfl,rfl⟩
     unfold ref13_Check.c2 at hF
     refine At.region (At.d R R R R (jb (x:=(.tv (kInt .i64) i6)) (ja R)) ?_)
     refine At.d R R R R (jk (ja R) (ji _ _) vc) ?_
     refine At.d R R R R (jd (x:=(.tv (kInt .i64) (w64 (i6+(1:Int))))) (ja R)) ?_
     refine At.done (At.vh ?_)
     refine At.w [0] R [(3,(.tv (kSlice kViolation) out207)),(4,(.eq v1)),(5,(.tv (kInt .i64) (w64 (i6+(1:Int)))))] ⟨R,R,R,trivial⟩ (At.r ⟨out207,(w64 (i6+(1:Int))),hF,R,R⟩)
   ·replace hF:=W.ite_f hb101 hF
    refine At.exit ?_
    refine At.x (At.x ?_)
    refine At.h ?_
    refine At.vh ?_
    refine At.w [] R [(3,(.tv (kSlice kViolation) out167))] ⟨R,trivial⟩ (At.r ⟨out167,hF,R,R⟩)
 ·rintro _ _ ⟨out84,hF,rfl,rfl⟩
  unfold ref13_Check.c1 at hF
  refine At.seq (At.region (At.d R R R R (jb (x:=(.tv (kSlice kViolation) out84)) (ja R)) ?_))
  refine At.d R R R R (jd (x:=(.tv (kSlice kViolation) out84)) (ja R)) ?_
  refine At.done (At.vh (At.ret ?_))
  exact At.j rfl (rv_tmp rfl) [] rfl ⟨out84,hF,rfl,rfl⟩
def ref13_Few.c1:W Bool:=W.ret true
def ref13_Few.c2 (i6:Int) (A1:Int→W Bool):W Bool:=A1 (w64 (i6+(1:Int)))
def ref13_Few.l2 (m1:Map) (i6:Int) (K2:W Bool) (A2:Int→W Bool) (k36:Int):W Bool:=W.ite (decide (k36<(((rd zObject m1.Objects i6).Tags).length:Int))) (W.req (0≤k36∧k36<(((rd zObject m1.Objects i6).Tags).length:Int)) (W.ite (decide ((300:Int)<(w64 ((((rd zTag ((rd zObject m1.Objects i6).Tags) k36).Key).size:Int)+(((rd zTag ((rd zObject m1.Objects i6).Tags) k36).Value).size:Int))))) (W.ret false) (A2 (w64 (k36+(1:Int)))))) (K2)
def ref13_Few.c3 (m1:Map) (i6:Int) (K2:W Bool):W Bool:=W.ex fun n=>W.iter1 (ref13_Few.l2 m1 i6 K2) n (0:Int)
def ref13_Few.l3 (m1:Map) (i6:Int) (K3:W Bool) (A3:Int→W Bool) (k39:Int):W Bool:=W.ite (decide (k39<(((rd zObject m1.Objects i6).Refs).length:Int))) (W.req (0≤k39∧k39<(((rd zObject m1.Objects i6).Refs).length:Int)) (W.ite (decide ((60:Int)<((rd (⟨#[]⟩:BA) ((rd zObject m1.Objects i6).Refs) k39).size:Int))) (W.ret false) (A3 (w64 (k39+(1:Int)))))) (K3)
def ref13_Few.l1 (m1:Map) (K1:W Bool) (A1:Int→W Bool) (i6:Int):W Bool:=W.ite (decide (i6<(m1.Objects.length:Int))) (W.req (0≤i6∧i6<(m1.Objects.length:Int)) (W.ite (((decide ((12:Int)<(((rd zObject m1.Objects i6).Refs).length:Int)))||(decide ((20:Int)<(((rd zObject m1.Objects i6).Tags).length:Int))))||(decide ((60:Int)<(((rd zObject m1.Objects i6).Id).size:Int)))) (W.ret false) (W.ex fun n=>W.iter1 (ref13_Few.l3 m1 i6 (ref13_Few.c3 m1 i6 (ref13_Few.c2 i6 A1))) n (0:Int)))) (K1)
def ref13_Few.F (m1:Map) (most1:Int):W Bool:=W.ite (decide (most1<(m1.Objects.length:Int))) (W.ret false) (W.ex fun n=>W.iter1 (ref13_Few.l1 m1 (ref13_Few.c1)) n (0:Int))
theorem ref13_Few.ok {m1:Map} {most1:Int} {Q:Bool→Prop} (hF:ref13_Few.F m1 most1 Q):Con Tryz.prog 11 [.tv kMap m1,.tv (kInt .i64) most1] [] (fun ta rs'=>∃ (r:Bool),Q r∧ta=.tv kBool r∧rs'=[]):=by
 refine Con.i Tryz.func11 Tryz.ntmps11 R R (fun C=>?_)
 unfold ref13_Few.F at hF
 refine At.seq (At.region (At.f R (jw R R R (ja R)) ?_))
 rintro _ _ ⟨g1,rfl,rfl⟩
 refine At.d R R R R (jd (x:=(.tv kBool false)) (jl _)) ?_
 refine At.done (At.vh (At.seq (At.seq (At.region (At.d R R R R (je (ja R) fa_24_0) ?_)))))
 refine At.d R R R R (jc (ja R) 0 R sub_Map_0 ty_22) ?_
 refine At.d R R R R (js (ja R) Tryz.underlying22) ?_
 refine At.d R R R R (jb (x:=(.tv (kInt .i64) most1)) (ja R)) ?_
 refine At.d R R R R (jk (ja R) (ja R) bin_gtr) ?_
 refine At.done (At.vh ?_)
 refine At.cond (ja R) (fun hb1=>?_) (fun hb1=>?_)
 ·replace hF:=W.ite_t hb1 hF
  refine At.seq (At.region (At.d R R R R (jd (x:=(.tv kBool false)) (jl _)) ?_))
  refine At.done (At.vh (At.ret (At.vi ?_)))
  exact At.j rfl (rv_tmp rfl) [] rfl ⟨false,hF,rfl,rfl⟩
 ·replace hF:=W.ite_f hb1 hF
  refine At.skip (At.vh ?_)
  refine At.cut (fun rs L=>∃ _:Unit,ref13_Few.c1 Q∧rs=[]∧L=mkL []) ?_ ?_
  ·refine At.seq (At.region (At.d R R R R (jd (x:=(.tv (kInt .i64) (0:Int))) (ji _ _)) ?_))
   refine At.done (At.vh (At.block ?_))
   obtain ⟨n3,hF⟩:=hF
   refine At.w [0] R [(2,(.eq (.pointer (some ⟨g1,0,none⟩)))),(5,(.tv (kInt .i64) (0:Int)))] ⟨R,R,trivial⟩ ?_
   refine At.loop (fun m rs L=>∃ (i6:Int),W.iter1 (ref13_Few.l1 m1 (ref13_Few.c1)) m i6 Q∧rs=[.box g1 24 kMap m1]∧L=mkL [(2,(.eq (.pointer (some ⟨g1,0,none⟩)))),(5,(.tv (kInt .i64) i6))]) ?_ ?_ (m:=n3) ⟨(0:Int),hF,R,R⟩
   ·rintro rs L ⟨_,hF,_,_⟩;exact hF
   ·rintro m2 _ _ ⟨i6,hF,rfl,rfl⟩
    replace hF:=W.iter1_s hF
    unfold ref13_Few.l1 at hF
    refine At.seq (At.seq (At.region (At.d R R R R (jb (x:=(.tv (kInt .i64) i6)) (ja R)) ?_)))
    refine At.d R R R R (je (ja R) fa_24_0) ?_
    refine At.d R R R R (jc (ja R) 0 R sub_Map_0 ty_22) ?_
    refine At.d R R R R (js (ja R) Tryz.underlying22) ?_
    refine At.d R R R R (jk (ja R) (ja R) vd) ?_
    refine At.done (At.vh ?_)
    refine At.cond (ja R) (fun hb42=>?_) (fun hb42=>?_)
    ·replace hF:=W.ite_t hb42 hF
     refine At.skip (At.vh ?_)
     refine At.cut (fun rs L=>∃ _:Unit,ref13_Few.c2 i6 (W.iter1 (ref13_Few.l1 m1 (ref13_Few.c1)) m2) Q∧rs=[.box g1 24 kMap m1]∧L=mkL [(2,(.eq (.pointer (some ⟨g1,0,none⟩)))),(5,(.tv (kInt .i64) i6))]) ?_ ?_
     ·refine At.block (At.seq (At.region (At.d R R R R (je (ja R) fa_24_0) ?_)))
      refine At.d R R R R (jc (ja R) 0 R sub_Map_0 ty_22) ?_
      refine At.d R R R R (jb (x:=(.tv (kInt .i64) i6)) (ja R)) ?_
      obtain ⟨hq26,hF⟩:=hF
      refine At.d R R R R (vf zObject (ja R) (ja R) Tryz.underlying22 ty_59 hq26) ?_
      refine At.d R R R R (vq (K:=kObject) (ja R) ty_59) ?_
      refine At.f R (eff_alloc R R R tz_59) ?_
      rintro _ _ ⟨g7,rfl,rfl⟩
      refine At.f R (jx R R (ja R) 0 R (Sub.self kObject) ty_59 (ja R)) ?_
      rintro _ _ ⟨rfl,rfl⟩
      refine At.done (At.vh (At.seq (At.seq (At.region (At.d R R R R (je (ja R) fa_59_3) ?_)))))
      refine At.d R R R R (jc (ja R) 0 R sub_Object_3 ty_41) ?_
      refine At.d R R R R (js (ja R) Tryz.underlying41) ?_
      refine At.d R R R R (jk (ja R) (ji _ _) bin_gtr) ?_
      refine At.d R R R R (jb (x:=(.tv kBool (decide ((12:Int)<(((rd zObject m1.Objects i6).Refs).length:Int))))) (ja R)) ?_
      refine At.vj R R R R (jv R) R (fun hg41=>(je (ja R) fa_59_4)) ?_
      refine At.vj R R R R (jv R) R (fun hg42=>(jc (jh R hg42) 0 R sub_Object_4 ty_57)) ?_
      refine At.vj R R R R (jv R) R (fun hg43=>(js (jh R hg43) Tryz.underlying57)) ?_
      refine At.vj R R R R (jv R) R (fun hg44=>(jk (jh R hg44) (ji _ _) bin_gtr)) ?_
      refine At.d R R R R (jm (ja R) (jl _) (ja R) pick_or) ?_
      refine At.d R R R R (jb (x:=(.tv kBool ((decide ((12:Int)<(((rd zObject m1.Objects i6).Refs).length:Int)))||(decide ((20:Int)<(((rd zObject m1.Objects i6).Tags).length:Int)))))) (ja R)) ?_
      refine At.vj R R R R (jv R) R (fun hg45=>(je (ja R) fa_59_0)) ?_
      refine At.vj R R R R (jv R) R (fun hg46=>(jc (jh R hg46) 0 R sub_Object_0 ty_9)) ?_
      refine At.vj R R R R (jv R) R (fun hg47=>(does_len_str (jh R hg47) Tryz.underlying9)) ?_
      refine At.vj R R R R (jv R) R (fun hg48=>(jk (jh R hg48) (ji _ _) bin_gtr)) ?_
      refine At.d R R R R (jm (ja R) (jl _) (ja R) pick_or) ?_
      refine At.done (At.vh ?_)
      refine At.cond (ja R) (fun hb52=>?_) (fun hb52=>?_)
      ·replace hF:=W.ite_t hb52 hF
       refine At.seq (At.region (At.d R R R R (jd (x:=(.tv kBool false)) (jl _)) ?_))
       refine At.done (At.vh (At.ret (At.vi ?_)))
       refine At.q ?_
       refine At.vi (At.vi ?_)
       refine At.q ?_
       refine At.vi ?_
       exact At.j rfl (rv_tmp rfl) [] rfl ⟨false,hF,rfl,rfl⟩
      ·replace hF:=W.ite_f hb52 hF
       refine At.skip (At.vh ?_)
       refine At.cut (fun rs L=>∃ _:Unit,ref13_Few.c3 m1 i6 (ref13_Few.c2 i6 (W.iter1 (ref13_Few.l1 m1 (ref13_Few.c1)) m2)) Q∧rs=[.box g1 24 kMap m1,.box g7 59 kObject (rd zObject m1.Objects i6)]∧L=mkL [(2,(.eq (.pointer (some ⟨g1,0,none⟩)))),(5,(.tv (kInt .i64) i6)),(6,(.eq (.pointer (some ⟨g7,0,none⟩))))]) ?_ ?_
       ·refine At.seq (At.region (At.d R R R R (jd (x:=(.tv (kInt .i64) (0:Int))) (ji _ _)) ?_))
        refine At.done (At.vh (At.block ?_))
        obtain ⟨n2,hF⟩:=hF
        refine At.w [1,0] R [(2,(.eq (.pointer (some ⟨g1,0,none⟩)))),(5,(.tv (kInt .i64) i6)),(6,(.eq (.pointer (some ⟨g7,0,none⟩)))),(7,(.tv (kInt .i64) (0:Int)))] ⟨R,R,R,R,trivial⟩ ?_
        refine At.loop (fun m rs L=>∃ (k39:Int),W.iter1 (ref13_Few.l3 m1 i6 (ref13_Few.c3 m1 i6 (ref13_Few.c2 i6 (W.iter1 (ref13_Few.l1 m1 (ref13_Few.c1)) m2)))) m k39 Q∧rs=[.box g1 24 kMap m1,.box g7 59 kObject (rd zObject m1.Objects i6)]∧L=mkL [(2,(.eq (.pointer (some ⟨g1,0,none⟩)))),(5,(.tv (kInt .i64) i6)),(6,(.eq (.pointer (some ⟨g7,0,none⟩)))),(7,(.tv (kInt .i64) k39))]) ?_ ?_ (m:=n2) ⟨(0:Int),hF,R,R⟩
        ·rintro rs L ⟨_,hF,_,_⟩;exact hF
        ·rintro m4 _ _ ⟨k39,hF,rfl,rfl⟩
         replace hF:=W.iter1_s hF
         unfold ref13_Few.l3 at hF
         refine At.seq (At.seq (At.region (At.d R R R R (jb (x:=(.tv (kInt .i64) k39)) (ja R)) ?_)))
         refine At.d R R R R (je (ja R) fa_59_3) ?_
         refine At.d R R R R (jc (ja R) 1 R sub_Object_3 ty_41) ?_
         refine At.d R R R R (js (ja R) Tryz.underlying41) ?_
         refine At.d R R R R (jk (ja R) (ja R) vd) ?_
         refine At.done (At.vh ?_)
         refine At.cond (ja R) (fun hb67=>?_) (fun hb67=>?_)
         ·replace hF:=W.ite_t hb67 hF
          refine At.skip (At.vh (At.seq (At.block (At.seq (At.region (At.d R R R R (je (ja R) fa_59_3) ?_))))))
          refine At.d R R R R (jc (ja R) 1 R sub_Object_3 ty_41) ?_
          refine At.d R R R R (jb (x:=(.tv (kInt .i64) k39)) (ja R)) ?_
          obtain ⟨hq34,hF⟩:=hF
          refine At.d R R R R (vf (⟨#[]⟩:BA) (ja R) (ja R) Tryz.underlying41 ty_9 hq34) ?_
          refine At.d R R R R (vq (K:=kStr) (ja R) ty_9) ?_
          refine At.d R R R R (does_len_str (ja R) Tryz.underlying9) ?_
          refine At.d R R R R (jk (ja R) (ji _ _) bin_gtr) ?_
          refine At.done (At.vh ?_)
          refine At.cond (ja R) (fun hb68=>?_) (fun hb68=>?_)
          ·replace hF:=W.ite_t hb68 hF
           refine At.seq (At.region (At.d R R R R (jd (x:=(.tv kBool false)) (jl _)) ?_))
           refine At.done (At.vh (At.ret ?_))
           refine At.q ?_
           refine At.vi (At.vi ?_)
           refine At.q ?_
           refine At.vi ?_
           refine At.q ?_
           refine At.vi (At.vi ?_)
           refine At.q ?_
           refine At.vi ?_
           exact At.j rfl (rv_tmp rfl) [] rfl ⟨false,hF,rfl,rfl⟩
          ·replace hF:=W.ite_f hb68 hF
           refine At.skip ?_
           refine At.n ?_
           refine At.vh (At.region (At.d R R R R (jb (x:=(.tv (kInt .i64) k39)) (ja R)) ?_))
           refine At.d R R R R (jk (ja R) (ji _ _) vc) ?_
           refine At.d R R R R (jd (x:=(.tv (kInt .i64) (w64 (k39+(1:Int))))) (ja R)) ?_
           refine At.done (At.vh ?_)
           refine At.w [0,1] R [(2,(.eq (.pointer (some ⟨g1,0,none⟩)))),(5,(.tv (kInt .i64) i6)),(6,(.eq (.pointer (some ⟨g7,0,none⟩)))),(7,(.tv (kInt .i64) (w64 (k39+(1:Int)))))] ⟨R,R,R,R,trivial⟩ (At.r ⟨(w64 (k39+(1:Int))),hF,R,R⟩)
         ·replace hF:=W.ite_f hb67 hF
          refine At.exit ?_
          refine At.x (At.x ?_)
          refine At.h ?_
          refine At.vh ?_
          refine At.w [0,1] R [(2,(.eq (.pointer (some ⟨g1,0,none⟩)))),(5,(.tv (kInt .i64) i6)),(6,(.eq (.pointer (some ⟨g7,0,none⟩))))] ⟨R,R,R,trivial⟩ (At.r ⟨(),hF,R,R⟩)
       ·rintro _ _ ⟨_,hF,rfl,rfl⟩
        unfold ref13_Few.c3 at hF
        refine At.seq (At.region (At.d R R R R (jd (x:=(.tv (kInt .i64) (0:Int))) (ji _ _)) ?_))
        refine At.done (At.vh (At.block ?_))
        obtain ⟨n1,hF⟩:=hF
        refine At.w [0,1] R [(2,(.eq (.pointer (some ⟨g1,0,none⟩)))),(5,(.tv (kInt .i64) i6)),(6,(.eq (.pointer (some ⟨g7,0,none⟩)))),(8,(.tv (kInt .i64) (0:Int)))] ⟨R,R,R,R,trivial⟩ ?_
        refine At.loop (fun m rs L=>∃ (k36:Int),W.iter1 (ref13_Few.l2 m1 i6 (ref13_Few.c2 i6 (W.iter1 (ref13_Few.l1 m1 (ref13_Few.c1)) m2))) m k36 Q∧rs=[.box g1 24 kMap m1,.box g7 59 kObject (rd zObject m1.Objects i6)]∧L=mkL [(2,(.eq (.pointer (some ⟨g1,0,none⟩)))),(5,(.tv (kInt .i64) i6)),(6,(.eq (.pointer (some ⟨g7,0,none⟩)))),(8,(.tv (kInt .i64) k36))]) ?_ ?_ (m:=n1) ⟨(0:Int),hF,R,R⟩
        ·rintro rs L ⟨_,hF,_,_⟩;exact hF
        ·rintro m3 _ _ ⟨k36,hF,rfl,rfl⟩
         replace hF:=W.iter1_s hF
         unfold ref13_Few.l2 at hF
         refine At.seq (At.seq (At.region (At.d R R R R (jb (x:=(.tv (kInt .i64) k36)) (ja R)) ?_)))
         refine At.d R R R R (je (ja R) fa_59_4) ?_
         refine At.d R R R R (jc (ja R) 1 R sub_Object_4 ty_57) ?_
         refine At.d R R R R (js (ja R) Tryz.underlying57) ?_
         refine At.d R R R R (jk (ja R) (ja R) vd) ?_
         refine At.done (At.vh ?_)
         refine At.cond (ja R) (fun hb61=>?_) (fun hb61=>?_)
         ·replace hF:=W.ite_t hb61 hF
          refine At.skip (At.vh (At.seq (At.block (At.seq ?_))))
          refine At.draw mixed [0,1] R [[],[]] (fun φ w hgd=>?_)
          obtain ⟨hq31,hF⟩:=hF
          refine AtH.take [0,1] hgd 0 R R R R (D':=#[Y,N,N,N,N,N,N,N,N,N,N,N,N,N,N,N]) (by kernel_rfl) (fun _ _ _ _ h=>h) R (je (ja R) fa_59_4) ?_
          refine AtH.take [0,1] hgd 1 R R R R (D':=#[Y,Y,N,N,N,N,N,N,N,N,N,N,N,N,N,N]) (by kernel_rfl) (fun _ _ _ _ h=>h) R (jc (ja R) 1 R sub_Object_4 ty_57) ?_
          refine AtH.take [0,1] hgd 2 R R R R (D':=#[Y,Y,Y,N,N,N,N,N,N,N,N,N,N,N,N,N]) (by kernel_rfl) (fun _ _ _ _ h=>h) R (jb (x:=(.tv (kInt .i64) k36)) (ja R)) ?_
          refine AtH.take [0,1] hgd 3 R R R R (D':=#[Y,Y,Y,Y,N,N,N,N,N,N,N,N,N,N,N,N]) (by kernel_rfl) (fun _ _ _ _ h=>h) R (vf zTag (ja R) (ja R) Tryz.underlying57 ty_73 hq31) ?_
          refine AtH.take [0,1] hgd 4 R R R R (D':=#[Y,Y,Y,Y,Y,N,N,N,N,N,N,N,N,N,N,N]) (by kernel_rfl) (fun _ _ _ _ h=>h) R (Jd (K:=kTag) (ja R) fa_73_0 sub_Tag_0) ?_
          refine AtH.take [0,1] hgd 5 R R R R (D':=#[Y,Y,Y,Y,Y,Y,N,N,N,N,N,N,N,N,N,N]) (by kernel_rfl) (fun _ _ _ _ h=>h) R (vq (K:=kStr) (ja R) ty_9) ?_
          refine AtH.take [0,1] hgd 6 R R R R (D':=#[Y,Y,Y,Y,Y,Y,Y,N,N,N,N,N,N,N,N,N]) (by kernel_rfl) (fun _ _ _ _ h=>h) R (does_len_str (ja R) Tryz.underlying9) ?_
          refine AtH.take [0,1] hgd 7 R R R R (D':=#[Y,Y,Y,Y,Y,Y,Y,Y,N,N,N,N,N,N,N,N]) (by kernel_rfl) (fun _ _ _ _ h=>h) R (je (ja R) fa_59_4) ?_
          refine AtH.take [0,1] hgd 8 R R R R (D':=#[Y,Y,Y,Y,Y,Y,Y,Y,Y,N,N,N,N,N,N,N]) (by kernel_rfl) (fun _ _ _ _ h=>h) R (jc (ja R) 1 R sub_Object_4 ty_57) ?_
          refine AtH.take [0,1] hgd 9 R R R R (D':=#[Y,Y,Y,Y,Y,Y,Y,Y,Y,Y,N,N,N,N,N,N]) (by kernel_rfl) (fun _ _ _ _ h=>h) R (jb (x:=(.tv (kInt .i64) k36)) (ja R)) ?_
          refine AtH.take [0,1] hgd 10 R R R R (D':=#[Y,Y,Y,Y,Y,Y,Y,Y,Y,Y,Y,N,N,N,N,N]) (by kernel_rfl) (fun _ _ _ _ h=>h) R (vf zTag (ja R) (ja R) Tryz.underlying57 ty_73 hq31) ?_
          refine AtH.take [0,1] hgd 11 R R R R (D':=#[Y,Y,Y,Y,Y,Y,Y,Y,Y,Y,Y,Y,N,N,N,N]) (by kernel_rfl) (fun _ _ _ _ h=>h) R (Jd (K:=kTag) (ja R) fa_73_1 sub_Tag_1) ?_
          refine AtH.take [0,1] hgd 12 R R R R (D':=#[Y,Y,Y,Y,Y,Y,Y,Y,Y,Y,Y,Y,Y,N,N,N]) (by kernel_rfl) (fun _ _ _ _ h=>h) R (vq (K:=kStr) (ja R) ty_9) ?_
          refine AtH.take [0,1] hgd 13 R R R R (D':=#[Y,Y,Y,Y,Y,Y,Y,Y,Y,Y,Y,Y,Y,Y,N,N]) (by kernel_rfl) (fun _ _ _ _ h=>h) R (does_len_str (ja R) Tryz.underlying9) ?_
          refine AtH.take [0,1] hgd 14 R R R R (D':=#[Y,Y,Y,Y,Y,Y,Y,Y,Y,Y,Y,Y,Y,Y,Y,N]) (by kernel_rfl) (fun _ _ _ _ h=>h) R (jk (ja R) (ja R) vc) ?_
          refine AtH.take [0,1] hgd 15 R R R R (D':=#[Y,Y,Y,Y,Y,Y,Y,Y,Y,Y,Y,Y,Y,Y,Y,Y]) (by kernel_rfl) (fun _ _ _ _ h=>h) R (jk (ja R) (ji _ _) bin_gtr) ?_
          refine AtH.done (by kernel_rfl) ?_
          refine At.vh ?_
          refine At.cond (ja R) (fun hb62=>?_) (fun hb62=>?_)
          ·replace hF:=W.ite_t hb62 hF
           refine At.seq (At.region (At.d R R R R (jd (x:=(.tv kBool false)) (jl _)) ?_))
           refine At.done (At.vh (At.ret ?_))
           refine At.q ?_
           refine At.vi (At.vi ?_)
           refine At.q ?_
           refine At.q ?_
           refine At.vi (At.vi ?_)
           refine At.q ?_
           refine At.vi ?_
           exact At.j rfl (rv_tmp rfl) [] rfl ⟨false,hF,rfl,rfl⟩
          ·replace hF:=W.ite_f hb62 hF
           refine At.skip ?_
           refine At.n ?_
           refine At.vh (At.region (At.d R R R R (jb (x:=(.tv (kInt .i64) k36)) (ja R)) ?_))
           refine At.d R R R R (jk (ja R) (ji _ _) vc) ?_
           refine At.d R R R R (jd (x:=(.tv (kInt .i64) (w64 (k36+(1:Int))))) (ja R)) ?_
           refine At.done (At.vh ?_)
           refine At.w [0,1] R [(2,(.eq (.pointer (some ⟨g1,0,none⟩)))),(5,(.tv (kInt .i64) i6)),(6,(.eq (.pointer (some ⟨g7,0,none⟩)))),(8,(.tv (kInt .i64) (w64 (k36+(1:Int)))))] ⟨R,R,R,R,trivial⟩ (At.r ⟨(w64 (k36+(1:Int))),hF,R,R⟩)
         ·replace hF:=W.ite_f hb61 hF
          refine At.exit ?_
          refine At.x (At.x ?_)
          refine At.h ?_
          refine At.n ?_
          refine At.vh ?_
          refine At.w [0] R [(2,(.eq (.pointer (some ⟨g1,0,none⟩)))),(5,(.tv (kInt .i64) i6))] ⟨R,R,trivial⟩ (At.r ⟨(),hF,R,R⟩)
     ·rintro _ _ ⟨_,hF,rfl,rfl⟩
      unfold ref13_Few.c2 at hF
      refine At.region (At.d R R R R (jb (x:=(.tv (kInt .i64) i6)) (ja R)) ?_)
      refine At.d R R R R (jk (ja R) (ji _ _) vc) ?_
      refine At.d R R R R (jd (x:=(.tv (kInt .i64) (w64 (i6+(1:Int))))) (ja R)) ?_
      refine At.done (At.vh ?_)
      refine At.w [0] R [(2,(.eq (.pointer (some ⟨g1,0,none⟩)))),(5,(.tv (kInt .i64) (w64 (i6+(1:Int)))))] ⟨R,R,trivial⟩ (At.r ⟨(w64 (i6+(1:Int))),hF,R,R⟩)
    ·replace hF:=W.ite_f hb42 hF
     refine At.exit ?_
     refine At.x (At.x ?_)
     refine At.h ?_
     refine At.vh ?_
     refine At.w [] R [] trivial (At.r ⟨(),hF,R,R⟩)
  ·rintro _ _ ⟨_,hF,rfl,rfl⟩
   unfold ref13_Few.c1 at hF
   refine At.seq (At.region (At.d R R R R (jd (x:=(.tv kBool true)) (jl _)) ?_))
   refine At.done (At.vh (At.ret ?_))
   exact At.j rfl (rv_tmp rfl) [] rfl ⟨true,hF,rfl,rfl⟩
def ref13_Same.c1:W Bool:=W.ret true
def ref13_Same.l1 (a1:(List Violation)) (b1:(List Violation)) (K1:W Bool) (A1:Int→W Bool) (i6:Int):W Bool:=W.ite (decide (i6<(a1.length:Int))) (W.req (0≤i6∧i6<(a1.length:Int)) (W.req (0≤i6∧i6<(b1.length:Int)) (W.req ((!(!(sEq ((rd zViolation a1 i6).View) ((rd zViolation b1 i6).View))))=true→0≤i6∧i6<(a1.length:Int)) (W.req ((!(!(sEq ((rd zViolation a1 i6).View) ((rd zViolation b1 i6).View))))=true→0≤i6∧i6<(b1.length:Int)) (W.req ((!((!(sEq ((rd zViolation a1 i6).View) ((rd zViolation b1 i6).View)))||(((rd zViolation a1 i6).Kind) != ((rd zViolation b1 i6).Kind))))=true→0≤i6∧i6<(a1.length:Int)) (W.req ((!((!(sEq ((rd zViolation a1 i6).View) ((rd zViolation b1 i6).View)))||(((rd zViolation a1 i6).Kind) != ((rd zViolation b1 i6).Kind))))=true→0≤i6∧i6<(b1.length:Int)) (W.bind (W.ite (!((!(sEq ((rd zViolation a1 i6).View) ((rd zViolation b1 i6).View)))||(((rd zViolation a1 i6).Kind) != ((rd zViolation b1 i6).Kind)))) (ref13_Ids.F ((rd zViolation a1 i6).Ids) ((rd zViolation b1 i6).Ids)) (W.ret false)) (fun r5=>W.ite (((!(sEq ((rd zViolation a1 i6).View) ((rd zViolation b1 i6).View)))||(((rd zViolation a1 i6).Kind) != ((rd zViolation b1 i6).Kind)))||(!r5)) (W.ret false) (A1 (w64 (i6+(1:Int)))))))))))) (K1)
def ref13_Same.F (a1:(List Violation)) (b1:(List Violation)):W Bool:=W.ite ((a1.length:Int) != (b1.length:Int)) (W.ret false) (W.ex fun n=>W.iter1 (ref13_Same.l1 a1 b1 (ref13_Same.c1)) n (0:Int))
theorem ref13_Same.ok {a1:(List Violation)} {b1:(List Violation)} {Q:Bool→Prop} (hF:ref13_Same.F a1 b1 Q):Con Tryz.prog 15 [.tv (kSlice kViolation) a1,.tv (kSlice kViolation) b1] [] (fun ta rs'=>∃ (r:Bool),Q r∧ta=.tv kBool r∧rs'=[]):=by
 refine Con.i Tryz.func15 Tryz.ntmps15 R R (fun C=>?_)
 unfold ref13_Same.F at hF
 refine At.seq (At.region (At.d R R R R (jd (x:=(.tv kBool false)) (jl _)) ?_))
 refine At.done (At.vh (At.seq (At.seq (At.region (At.d R R R R (jb (x:=(.tv (kSlice kViolation) a1)) (ja R)) ?_)))))
 refine At.d R R R R (js (ja R) Tryz.underlying33) ?_
 refine At.d R R R R (jb (x:=(.tv (kSlice kViolation) b1)) (ja R)) ?_
 refine At.d R R R R (js (ja R) Tryz.underlying33) ?_
 refine At.d R R R R (jk (ja R) (ja R) bin_neq) ?_
 refine At.done (At.vh ?_)
 refine At.cond (ja R) (fun hb1=>?_) (fun hb1=>?_)
 ·replace hF:=W.ite_t hb1 hF
  refine At.seq (At.region (At.d R R R R (jd (x:=(.tv kBool false)) (jl _)) ?_))
  refine At.done (At.vh (At.ret (At.vi ?_)))
  exact At.j rfl (rv_tmp rfl) [] rfl ⟨false,hF,rfl,rfl⟩
 ·replace hF:=W.ite_f hb1 hF
  refine At.skip (At.vh ?_)
  refine At.cut (fun rs L=>∃ _:Unit,ref13_Same.c1 Q∧rs=[]∧L=mkL []) ?_ ?_
  ·refine At.seq (At.region (At.d R R R R (jd (x:=(.tv (kInt .i64) (0:Int))) (ji _ _)) ?_))
   refine At.done (At.vh (At.block ?_))
   obtain ⟨n1,hF⟩:=hF
   refine At.w [] R [(0,(.tv (kSlice kViolation) a1)),(1,(.tv (kSlice kViolation) b1)),(5,(.tv (kInt .i64) (0:Int)))] ⟨R,R,R,trivial⟩ ?_
   refine At.loop (fun m rs L=>∃ (i6:Int),W.iter1 (ref13_Same.l1 a1 b1 (ref13_Same.c1)) m i6 Q∧rs=[]∧L=mkL [(0,(.tv (kSlice kViolation) a1)),(1,(.tv (kSlice kViolation) b1)),(5,(.tv (kInt .i64) i6))]) ?_ ?_ (m:=n1) ⟨(0:Int),hF,R,R⟩
   ·rintro rs L ⟨_,hF,_,_⟩;exact hF
   ·rintro m1 _ _ ⟨i6,hF,rfl,rfl⟩
    replace hF:=W.iter1_s hF
    unfold ref13_Same.l1 at hF
    refine At.seq (At.seq (At.region (At.d R R R R (jb (x:=(.tv (kInt .i64) i6)) (ja R)) ?_)))
    refine At.d R R R R (jb (x:=(.tv (kSlice kViolation) a1)) (ja R)) ?_
    refine At.d R R R R (js (ja R) Tryz.underlying33) ?_
    refine At.d R R R R (jk (ja R) (ja R) vd) ?_
    refine At.done (At.vh ?_)
    refine At.cond (ja R) (fun hb10=>?_) (fun hb10=>?_)
    ·replace hF:=W.ite_t hb10 hF
     refine At.skip (At.vh (At.seq (At.block (At.seq ?_))))
     refine At.draw mixed [] R [] (fun φ w hgd=>?_)
     obtain ⟨hq25,hF⟩:=hF
     obtain ⟨hq26,hF⟩:=hF
     obtain ⟨hq27,hF⟩:=hF
     obtain ⟨hq28,hF⟩:=hF
     obtain ⟨hq29,hF⟩:=hF
     obtain ⟨hq30,hF⟩:=hF
     replace hF:=W.vm hF
     refine AtH.take [] hgd 0 R R R R (D':=#[Y,N,N,N,N,N,N,N,N,N,N,N,N,N,N,N,N,N,N,N,N,N,N,N,N,N,N,N,N,N,N,N,N,N,N,N,N,N]) (by kernel_rfl) (fun _ _ _ _ h=>h) R (jb (x:=(.tv (kSlice kViolation) a1)) (ja R)) ?_
     refine AtH.take [] hgd 1 R R R R (D':=#[Y,Y,N,N,N,N,N,N,N,N,N,N,N,N,N,N,N,N,N,N,N,N,N,N,N,N,N,N,N,N,N,N,N,N,N,N,N,N]) (by kernel_rfl) (fun _ _ _ _ h=>h) R (jb (x:=(.tv (kInt .i64) i6)) (ja R)) ?_
     refine AtH.take [] hgd 2 R R R R (D':=#[Y,Y,Y,N,N,N,N,N,N,N,N,N,N,N,N,N,N,N,N,N,N,N,N,N,N,N,N,N,N,N,N,N,N,N,N,N,N,N]) (by kernel_rfl) (fun _ _ _ _ h=>h) R (vf zViolation (ja R) (ja R) Tryz.underlying33 ty_43 hq25) ?_
     refine AtH.take [] hgd 3 R R R R (D':=#[Y,Y,Y,Y,N,N,N,N,N,N,N,N,N,N,N,N,N,N,N,N,N,N,N,N,N,N,N,N,N,N,N,N,N,N,N,N,N,N]) (by kernel_rfl) (fun _ _ _ _ h=>h) R (Jd (K:=kViolation) (ja R) fa_43_0 sub_Violation_0) ?_
     refine AtH.take [] hgd 4 R R R R (D':=#[Y,Y,Y,Y,Y,N,N,N,N,N,N,N,N,N,N,N,N,N,N,N,N,N,N,N,N,N,N,N,N,N,N,N,N,N,N,N,N,N]) (by kernel_rfl) (fun _ _ _ _ h=>h) R (vq (K:=kStr) (ja R) ty_9) ?_
     refine AtH.take [] hgd 5 R R R R (D':=#[Y,Y,Y,Y,Y,Y,N,N,N,N,N,N,N,N,N,N,N,N,N,N,N,N,N,N,N,N,N,N,N,N,N,N,N,N,N,N,N,N]) (by kernel_rfl) (fun _ _ _ _ h=>h) R (jb (x:=(.tv (kSlice kViolation) b1)) (ja R)) ?_
     refine AtH.take [] hgd 6 R R R R (D':=#[Y,Y,Y,Y,Y,Y,Y,N,N,N,N,N,N,N,N,N,N,N,N,N,N,N,N,N,N,N,N,N,N,N,N,N,N,N,N,N,N,N]) (by kernel_rfl) (fun _ _ _ _ h=>h) R (jb (x:=(.tv (kInt .i64) i6)) (ja R)) ?_
     refine AtH.take [] hgd 7 R R R R (D':=#[Y,Y,Y,Y,Y,Y,Y,Y,N,N,N,N,N,N,N,N,N,N,N,N,N,N,N,N,N,N,N,N,N,N,N,N,N,N,N,N,N,N]) (by kernel_rfl) (fun _ _ _ _ h=>h) R (vf zViolation (ja R) (ja R) Tryz.underlying33 ty_43 hq26) ?_
     refine AtH.take [] hgd 8 R R R R (D':=#[Y,Y,Y,Y,Y,Y,Y,Y,Y,N,N,N,N,N,N,N,N,N,N,N,N,N,N,N,N,N,N,N,N,N,N,N,N,N,N,N,N,N]) (by kernel_rfl) (fun _ _ _ _ h=>h) R (Jd (K:=kViolation) (ja R) fa_43_0 sub_Violation_0) ?_
     refine AtH.take [] hgd 9 R R R R (D':=#[Y,Y,Y,Y,Y,Y,Y,Y,Y,Y,N,N,N,N,N,N,N,N,N,N,N,N,N,N,N,N,N,N,N,N,N,N,N,N,N,N,N,N]) (by kernel_rfl) (fun _ _ _ _ h=>h) R (vq (K:=kStr) (ja R) ty_9) ?_
     refine AtH.take [] hgd 10 R R R R (D':=#[Y,Y,Y,Y,Y,Y,Y,Y,Y,Y,Y,N,N,N,N,N,N,N,N,N,N,N,N,N,N,N,N,N,N,N,N,N,N,N,N,N,N,N]) (by kernel_rfl) (fun _ _ _ _ h=>h) R (jk (ja R) (ja R) bin_sneq) ?_
     refine AtH.take [] hgd 11 R R R R (D':=#[Y,Y,Y,Y,Y,Y,Y,Y,Y,Y,Y,Y,N,N,N,N,N,N,N,N,N,N,N,N,N,N,N,N,N,N,N,N,N,N,N,N,N,N]) (by kernel_rfl) (fun _ _ _ _ h=>h) R (jb (x:=(.tv kBool (!(sEq ((rd zViolation a1 i6).View) ((rd zViolation b1 i6).View))))) (ja R)) ?_
     refine AtH.vk [] hgd 12 R R R (jv R) R R (D':=#[Y,Y,Y,Y,Y,Y,Y,Y,Y,Y,Y,Y,Y,N,N,N,N,N,N,N,N,N,N,N,N,N,N,N,N,N,N,N,N,N,N,N,N,N]) (by kernel_rfl) (fun _ _ _ _ h=>h) R (fun hg203=>(jb (x:=(.tv (kSlice kViolation) a1)) (ja R))) ?_
     refine AtH.vk [] hgd 13 R R R (jv R) R R (D':=#[Y,Y,Y,Y,Y,Y,Y,Y,Y,Y,Y,Y,Y,Y,N,N,N,N,N,N,N,N,N,N,N,N,N,N,N,N,N,N,N,N,N,N,N,N]) (by kernel_rfl) (fun _ _ _ _ h=>h) R (fun hg204=>(jb (x:=(.tv (kInt .i64) i6)) (ja R))) ?_
     refine AtH.vk [] hgd 14 R R R (jv R) R R (D':=#[Y,Y,Y,Y,Y,Y,Y,Y,Y,Y,Y,Y,Y,Y,Y,N,N,N,N,N,N,N,N,N,N,N,N,N,N,N,N,N,N,N,N,N,N,N]) (by kernel_rfl) (fun _ _ _ _ h=>h) R (fun hg205=>(vf zViolation (jh R hg205) (jh R hg205) Tryz.underlying33 ty_43 (hq27 hg205))) ?_
     refine AtH.vk [] hgd 15 R R R (jv R) R R (D':=#[Y,Y,Y,Y,Y,Y,Y,Y,Y,Y,Y,Y,Y,Y,Y,Y,N,N,N,N,N,N,N,N,N,N,N,N,N,N,N,N,N,N,N,N,N,N]) (by kernel_rfl) (fun _ _ _ _ h=>h) R (fun hg206=>(Jd (K:=kViolation) (jh R hg206) fa_43_1 sub_Violation_1)) ?_
     refine AtH.vk [] hgd 16 R R R (jv R) R R (D':=#[Y,Y,Y,Y,Y,Y,Y,Y,Y,Y,Y,Y,Y,Y,Y,Y,Y,N,N,N,N,N,N,N,N,N,N,N,N,N,N,N,N,N,N,N,N,N]) (by kernel_rfl) (fun _ _ _ _ h=>h) R (fun hg207=>(vq (K:=(kInt .i64)) (jh R hg207) ty_3)) ?_
     refine AtH.vk [] hgd 17 R R R (jv R) R R (D':=#[Y,Y,Y,Y,Y,Y,Y,Y,Y,Y,Y,Y,Y,Y,Y,Y,Y,Y,N,N,N,N,N,N,N,N,N,N,N,N,N,N,N,N,N,N,N,N]) (by kernel_rfl) (fun _ _ _ _ h=>h) R (fun hg208=>(jb (x:=(.tv (kSlice kViolation) b1)) (ja R))) ?_
     refine AtH.vk [] hgd 18 R R R (jv R) R R (D':=#[Y,Y,Y,Y,Y,Y,Y,Y,Y,Y,Y,Y,Y,Y,Y,Y,Y,Y,Y,N,N,N,N,N,N,N,N,N,N,N,N,N,N,N,N,N,N,N]) (by kernel_rfl) (fun _ _ _ _ h=>h) R (fun hg209=>(jb (x:=(.tv (kInt .i64) i6)) (ja R))) ?_
     refine AtH.vk [] hgd 19 R R R (jv R) R R (D':=#[Y,Y,Y,Y,Y,Y,Y,Y,Y,Y,Y,Y,Y,Y,Y,Y,Y,Y,Y,Y,N,N,N,N,N,N,N,N,N,N,N,N,N,N,N,N,N,N]) (by kernel_rfl) (fun _ _ _ _ h=>h) R (fun hg210=>(vf zViolation (jh R hg210) (jh R hg210) Tryz.underlying33 ty_43 (hq28 hg210))) ?_
     refine AtH.vk [] hgd 20 R R R (jv R) R R (D':=#[Y,Y,Y,Y,Y,Y,Y,Y,Y,Y,Y,Y,Y,Y,Y,Y,Y,Y,Y,Y,Y,N,N,N,N,N,N,N,N,N,N,N,N,N,N,N,N,N]) (by kernel_rfl) (fun _ _ _ _ h=>h) R (fun hg211=>(Jd (K:=kViolation) (jh R hg211) fa_43_1 sub_Violation_1)) ?_
     refine AtH.vk [] hgd 21 R R R (jv R) R R (D':=#[Y,Y,Y,Y,Y,Y,Y,Y,Y,Y,Y,Y,Y,Y,Y,Y,Y,Y,Y,Y,Y,Y,N,N,N,N,N,N,N,N,N,N,N,N,N,N,N,N]) (by kernel_rfl) (fun _ _ _ _ h=>h) R (fun hg212=>(vq (K:=(kInt .i64)) (jh R hg212) ty_3)) ?_
     refine AtH.vk [] hgd 22 R R R (jv R) R R (D':=#[Y,Y,Y,Y,Y,Y,Y,Y,Y,Y,Y,Y,Y,Y,Y,Y,Y,Y,Y,Y,Y,Y,Y,N,N,N,N,N,N,N,N,N,N,N,N,N,N,N]) (by kernel_rfl) (fun _ _ _ _ h=>h) R (fun hg213=>(jk (jh R hg213) (jh R hg213) bin_neq)) ?_
     refine AtH.take [] hgd 23 R R R R (D':=#[Y,Y,Y,Y,Y,Y,Y,Y,Y,Y,Y,Y,Y,Y,Y,Y,Y,Y,Y,Y,Y,Y,Y,Y,N,N,N,N,N,N,N,N,N,N,N,N,N,N]) (by kernel_rfl) (fun _ _ _ _ h=>h) R (jm (ja R) (jl _) (ja R) pick_or) ?_
     refine AtH.take [] hgd 24 R R R R (D':=#[Y,Y,Y,Y,Y,Y,Y,Y,Y,Y,Y,Y,Y,Y,Y,Y,Y,Y,Y,Y,Y,Y,Y,Y,Y,N,N,N,N,N,N,N,N,N,N,N,N,N]) (by kernel_rfl) (fun _ _ _ _ h=>h) R (jb (x:=(.tv kBool ((!(sEq ((rd zViolation a1 i6).View) ((rd zViolation b1 i6).View)))||(((rd zViolation a1 i6).Kind) != ((rd zViolation b1 i6).Kind))))) (ja R)) ?_
     refine AtH.vk [] hgd 25 R R R (jv R) R R (D':=#[Y,Y,Y,Y,Y,Y,Y,Y,Y,Y,Y,Y,Y,Y,Y,Y,Y,Y,Y,Y,Y,Y,Y,Y,Y,Y,N,N,N,N,N,N,N,N,N,N,N,N]) (by kernel_rfl) (fun _ _ _ _ h=>h) R (fun hg214=>(jb (x:=(.tv (kSlice kViolation) a1)) (ja R))) ?_
     refine AtH.vk [] hgd 26 R R R (jv R) R R (D':=#[Y,Y,Y,Y,Y,Y,Y,Y,Y,Y,Y,Y,Y,Y,Y,Y,Y,Y,Y,Y,Y,Y,Y,Y,Y,Y,Y,N,N,N,N,N,N,N,N,N,N,N]) (by kernel_rfl) (fun _ _ _ _ h=>h) R (fun hg215=>(jb (x:=(.tv (kInt .i64) i6)) (ja R))) ?_
     refine AtH.vk [] hgd 27 R R R (jv R) R R (D':=#[Y,Y,Y,Y,Y,Y,Y,Y,Y,Y,Y,Y,Y,Y,Y,Y,Y,Y,Y,Y,Y,Y,Y,Y,Y,Y,Y,Y,N,N,N,N,N,N,N,N,N,N]) (by kernel_rfl) (fun _ _ _ _ h=>h) R (fun hg216=>(vf zViolation (jh R hg216) (jh R hg216) Tryz.underlying33 ty_43 (hq29 hg216))) ?_
     refine AtH.vk [] hgd 28 R R R (jv R) R R (D':=#[Y,Y,Y,Y,Y,Y,Y,Y,Y,Y,Y,Y,Y,Y,Y,Y,Y,Y,Y,Y,Y,Y,Y,Y,Y,Y,Y,Y,Y,N,N,N,N,N,N,N,N,N]) (by kernel_rfl) (fun _ _ _ _ h=>h) R (fun hg217=>(Jd (K:=kViolation) (jh R hg217) fa_43_2 sub_Violation_2)) ?_
     refine AtH.vk [] hgd 29 R R R (jv R) R R (D':=#[Y,Y,Y,Y,Y,Y,Y,Y,Y,Y,Y,Y,Y,Y,Y,Y,Y,Y,Y,Y,Y,Y,Y,Y,Y,Y,Y,Y,Y,Y,N,N,N,N,N,N,N,N]) (by kernel_rfl) (fun _ _ _ _ h=>h) R (fun hg218=>(vq (K:=(kSlice kStr)) (jh R hg218) ty_41)) ?_
     refine AtH.vk [] hgd 30 R R R (jv R) R R (D':=#[Y,Y,Y,Y,Y,Y,Y,Y,Y,Y,Y,Y,Y,Y,Y,Y,Y,Y,Y,Y,Y,Y,Y,Y,Y,Y,Y,Y,Y,Y,Y,N,N,N,N,N,N,N]) (by kernel_rfl) (fun _ _ _ _ h=>h) R (fun hg219=>(jb (x:=(.tv (kSlice kViolation) b1)) (ja R))) ?_
     refine AtH.vk [] hgd 31 R R R (jv R) R R (D':=#[Y,Y,Y,Y,Y,Y,Y,Y,Y,Y,Y,Y,Y,Y,Y,Y,Y,Y,Y,Y,Y,Y,Y,Y,Y,Y,Y,Y,Y,Y,Y,Y,N,N,N,N,N,N]) (by kernel_rfl) (fun _ _ _ _ h=>h) R (fun hg220=>(jb (x:=(.tv (kInt .i64) i6)) (ja R))) ?_
     refine AtH.vk [] hgd 32 R R R (jv R) R R (D':=#[Y,Y,Y,Y,Y,Y,Y,Y,Y,Y,Y,Y,Y,Y,Y,Y,Y,Y,Y,Y,Y,Y,Y,Y,Y,Y,Y,Y,Y,Y,Y,Y,Y,N,N,N,N,N]) (by kernel_rfl) (fun _ _ _ _ h=>h) R (fun hg221=>(vf zViolation (jh R hg221) (jh R hg221) Tryz.underlying33 ty_43 (hq30 hg221))) ?_
     refine AtH.vk [] hgd 33 R R R (jv R) R R (D':=#[Y,Y,Y,Y,Y,Y,Y,Y,Y,Y,Y,Y,Y,Y,Y,Y,Y,Y,Y,Y,Y,Y,Y,Y,Y,Y,Y,Y,Y,Y,Y,Y,Y,Y,N,N,N,N]) (by kernel_rfl) (fun _ _ _ _ h=>h) R (fun hg222=>(Jd (K:=kViolation) (jh R hg222) fa_43_2 sub_Violation_2)) ?_
     refine AtH.vk [] hgd 34 R R R (jv R) R R (D':=#[Y,Y,Y,Y,Y,Y,Y,Y,Y,Y,Y,Y,Y,Y,Y,Y,Y,Y,Y,Y,Y,Y,Y,Y,Y,Y,Y,Y,Y,Y,Y,Y,Y,Y,Y,N,N,N]) (by kernel_rfl) (fun _ _ _ _ h=>h) R (fun hg223=>(vq (K:=(kSlice kStr)) (jh R hg223) ty_41)) ?_
     refine AtH.all1 35 (by kernel_rfl) ?_
     refine AtH.effG [] R R R R R R R (jv R) (D':=#[Y,Y,Y,Y,Y,Y,Y,Y,Y,Y,Y,Y,Y,Y,Y,Y,Y,Y,Y,Y,Y,Y,Y,Y,Y,Y,Y,Y,Y,Y,Y,Y,Y,Y,Y,Y,N,N]) (by kernel_rfl) (by kernel_rfl) hF (fun r=>.tv kBool r) (fun _=>vl) (fun hg224 hF=>eff_of (jn R R jp (jq R en_29 (jf (jh R hg224) (jf (jh R hg224) jg))) (ref13_Ids.ok hF) (by rintro _ _ ⟨r,_,rfl,_⟩;exact vl)) (by rintro _ _ ⟨_,_,⟨r,hF,rfl,rfl⟩,rfl,rfl⟩;exact ⟨r,hF,R,R⟩)) (fun r5 hF=>?_)
     refine AtH.vk [] hgd 36 R R R (jv R) R R (D':=#[Y,Y,Y,Y,Y,Y,Y,Y,Y,Y,Y,Y,Y,Y,Y,Y,Y,Y,Y,Y,Y,Y,Y,Y,Y,Y,Y,Y,Y,Y,Y,Y,Y,Y,Y,Y,Y,N]) (by kernel_rfl) (fun _ _ _ _ h=>h) R (fun hg225=>(does_not (jh R hg225))) ?_
     refine AtH.take [] hgd 37 R R R R (D':=#[Y,Y,Y,Y,Y,Y,Y,Y,Y,Y,Y,Y,Y,Y,Y,Y,Y,Y,Y,Y,Y,Y,Y,Y,Y,Y,Y,Y,Y,Y,Y,Y,Y,Y,Y,Y,Y,Y]) (by kernel_rfl) (fun _ _ _ _ h=>h) R (jm (ja R) (jl _) (ja R) pick_or) ?_
     refine AtH.done (by kernel_rfl) ?_
     refine At.vh ?_
     refine At.cond (ja R) (fun hb11=>?_) (fun hb11=>?_)
     ·replace hF:=W.ite_t hb11 hF
      refine At.seq (At.region (At.d R R R R (jd (x:=(.tv kBool false)) (jl _)) ?_))
      refine At.done (At.vh (At.ret ?_))
      refine At.q ?_
      refine At.vi (At.vi ?_)
      refine At.q ?_
      refine At.vi ?_
      exact At.j rfl (rv_tmp rfl) [] rfl ⟨false,hF,rfl,rfl⟩
     ·replace hF:=W.ite_f hb11 hF
      refine At.skip ?_
      refine At.n ?_
      refine At.vh (At.region (At.d R R R R (jb (x:=(.tv (kInt .i64) i6)) (ja R)) ?_))
      refine At.d R R R R (jk (ja R) (ji _ _) vc) ?_
      refine At.d R R R R (jd (x:=(.tv (kInt .i64) (w64 (i6+(1:Int))))) (ja R)) ?_
      refine At.done (At.vh ?_)
      refine At.w [] R [(0,(.tv (kSlice kViolation) a1)),(1,(.tv (kSlice kViolation) b1)),(5,(.tv (kInt .i64) (w64 (i6+(1:Int)))))] ⟨R,R,R,trivial⟩ (At.r ⟨(w64 (i6+(1:Int))),hF,R,R⟩)
    ·replace hF:=W.ite_f hb10 hF
     refine At.exit ?_
     refine At.x (At.x ?_)
     refine At.h ?_
     refine At.vh ?_
     refine At.w [] R [] trivial (At.r ⟨(),hF,R,R⟩)
  ·rintro _ _ ⟨_,hF,rfl,rfl⟩
   unfold ref13_Same.c1 at hF
   refine At.seq (At.region (At.d R R R R (jd (x:=(.tv kBool true)) (jl _)) ?_))
   refine At.done (At.vh (At.ret ?_))
   exact At.j rfl (rv_tmp rfl) [] rfl ⟨true,hF,rfl,rfl⟩
def ref13_Segments.c1 (x7:(List Segment)) (x8:(List (List BA))):W ((List Segment)×(List (List BA))):=W.ret (x7,x8)
def ref13_Segments.l1 (r1:(List ref13_Border)) (K1:(List Segment)→(List (List BA))→W ((List Segment)×(List (List BA)))) (A1:(List Segment)→(List (List BA))→Int→W ((List Segment)×(List (List BA)))) (x13:(List Segment)) (x14:(List (List BA))) (i6:Int):W ((List Segment)×(List (List BA))):=W.ite (decide (i6<(r1.length:Int))) (W.req (0≤i6∧i6<(r1.length:Int)) (W.req (0≤i6∧i6<(r1.length:Int)) (W.bind (ref13_segment.F (rd vz r1 i6)) (fun r6=>W.req ((x13.length+([r6]:List Segment).length)*32≤140737488355328∧x13.length+([r6]:List Segment).length≤140737488355328) (W.req (0≤i6∧i6<(r1.length:Int)) (W.req (0≤i6∧i6<(r1.length:Int)) (W.req ((x14.length+([(rd vz r1 i6).Owners]:List (List BA)).length)*24≤140737488355328∧x14.length+([(rd vz r1 i6).Owners]:List (List BA)).length≤140737488355328) (A1 (x13++([r6]:List Segment)) (x14++([(rd vz r1 i6).Owners]:List (List BA))) (w64 (i6+(1:Int))))))))))) (K1 x13 x14)
def ref13_Segments.F (m1:Map):W ((List Segment)×(List (List BA))):=W.bind (ref13_Borders.F m1) (fun r1=>W.ex fun n=>W.iter3 (ref13_Segments.l1 r1 (ref13_Segments.c1)) n ([]:List Segment) ([]:List (List BA)) (0:Int))
theorem ref13_Segments.ok {m1:Map} {Q:((List Segment)×(List (List BA)))→Prop} (hF:ref13_Segments.F m1 Q):Con Tryz.prog 13 [.tv kMap m1] [] (fun ta rs'=>∃ (r:((List Segment)×(List (List BA)))) (u0:Value) (u1:Value),Q r∧ta=.tup2 (.eq u0) (.eq u1)∧rs'=[.row u0 39 kSegment r.1,.row u1 41 (kSlice kStr) r.2]):=by
 refine Con.i Tryz.func13 Tryz.ntmps13 R R (fun C=>?_)
 unfold ref13_Segments.F at hF
 refine At.seq (At.region (At.f R (jw R R R (ja R)) ?_))
 rintro _ _ ⟨g1,rfl,rfl⟩
 refine At.d R R R R (jd (x:=(.eq (.slice none 0 0))) (opd_eq _)) ?_
 refine At.d R R R R (jd (x:=(.eq (.slice none 0 0))) (opd_eq _)) ?_
 refine At.done (At.vh (At.seq (At.region (At.d R R R R (jc (ja R) 0 R (Sub.self kMap) ty_24) ?_))))
 replace hF:=W.vm hF
 refine At.f R (jo R R (jq R en_22 (jf (ja R) jg)) [] R (ref13_Borders.ok hF)) ?_
 rintro _ _ ⟨_,_,⟨r1,v1,hF,rfl,rfl⟩,rfl,rfl⟩
 refine At.d R R R R (jd (x:=(.eq v1)) (ja R)) ?_
 refine At.done (At.vh (At.seq (At.region (At.d R R R R (jd (x:=(.eq (.slice none 0 0))) (opd_eq _)) ?_))))
 refine At.done (At.vh (At.seq (At.region (At.d R R R R (jd (x:=(.eq (.slice none 0 0))) (opd_eq _)) ?_))))
 refine At.done (At.vh ?_)
 refine At.cut (fun rs L=>∃ (x7:(List Segment)) (v16:Value) (x8:(List (List BA))) (v17:Value),ref13_Segments.c1 x7 x8 Q∧rs=[.row v16 39 kSegment x7,.row v17 41 (kSlice kStr) x8]∧L=mkL [(5,(.eq v16)),(6,(.eq v17))]) ?_ ?_
 ·refine At.seq (At.region (At.d R R R R (jd (x:=(.tv (kInt .i64) (0:Int))) (ji _ _)) ?_))
  refine At.done (At.vh (At.block ?_))
  refine At.nilrow 39 kSegment ?_
  refine At.nilrow 41 (kSlice kStr) ?_
  obtain ⟨n1,hF⟩:=hF
  refine At.w [2,1,0] R [(4,(.eq v1)),(5,(.eq (.slice none 0 0))),(6,(.eq (.slice none 0 0))),(7,(.tv (kInt .i64) (0:Int)))] ⟨R,R,R,R,trivial⟩ ?_
  refine At.loop (fun m rs L=>∃ (x13:(List Segment)) (v30:Value) (x14:(List (List BA))) (v31:Value) (i6:Int),W.iter3 (ref13_Segments.l1 r1 (ref13_Segments.c1)) m x13 x14 i6 Q∧rs=[.row v1 49 kref13_Border r1,.row v30 39 kSegment x13,.row v31 41 (kSlice kStr) x14]∧L=mkL [(4,(.eq v1)),(5,(.eq v30)),(6,(.eq v31)),(7,(.tv (kInt .i64) i6))]) ?_ ?_ (m:=n1) ⟨([]:List Segment),(.slice none 0 0),([]:List (List BA)),(.slice none 0 0),(0:Int),hF,R,R⟩
  ·rintro rs L ⟨_,_,_,_,_,hF,_,_⟩;exact hF
  ·rintro m2 _ _ ⟨x13,v30,x14,v31,i6,hF,rfl,rfl⟩
   replace hF:=W.iter3_s hF
   unfold ref13_Segments.l1 at hF
   refine At.seq (At.seq (At.region (At.d R R R R (jb (x:=(.tv (kInt .i64) i6)) (ja R)) ?_)))
   refine At.d R R R R (jb (x:=(.eq v1)) (ja R)) ?_
   refine At.d R R R R (does_len_row (ja R) 0 R Tryz.underlying45) ?_
   refine At.d R R R R (jk (ja R) (ja R) vd) ?_
   refine At.done (At.vh ?_)
   refine At.cond (ja R) (fun hb5=>?_) (fun hb5=>?_)
   ·replace hF:=W.ite_t hb5 hF
    refine At.skip (At.vh (At.seq (At.block (At.seq (At.region (At.d R R R R (jb (x:=(.eq v30)) (ja R)) ?_))))))
    refine At.d R R R R (jb (x:=(.eq v1)) (ja R)) ?_
    refine At.d R R R R (jb (x:=(.tv (kInt .i64) i6)) (ja R)) ?_
    obtain ⟨hq25,hF⟩:=hF
    refine At.d R R R R (does_idx_row (ja R) 0 R (ja R) Tryz.underlying45 ty_49 hq25) ?_
    obtain ⟨hq26,hF⟩:=hF
    refine At.d R R R R (Jc (ja R) 0 R i6 0 R vz hq26 (Sub.self kref13_Border) ty_49) ?_
    replace hF:=W.vm hF
    refine At.f R (jn R R jp (jq R en_33 (jf (ja R) jg)) (ref13_segment.ok hF) (by rintro _ _ ⟨r,_,rfl,_⟩;exact (flat_tv flat_Segment))) ?_
    rintro _ _ ⟨_,_,⟨r6,hF,rfl,rfl⟩,rfl,rfl⟩
    refine At.f R (jy R R R (os:=[.tmp 21]) R sl_27 (xs:=([r6]:List Segment)) (jf (ja R) jg) R R) ?_
    rintro _ _ ⟨v32,rfl,rfl⟩
    obtain ⟨hq27,hF⟩:=hF
    refine At.f R (eff_append_row R R R 2 0 R R (ja R) (ja R) sl_27 hq27) ?_
    rintro _ _ ⟨v33,rfl,rfl⟩
    refine At.d R R R R (jd (x:=(.eq v33)) (ja R)) ?_
    refine At.done (At.vh (At.region (At.d R R R R (jb (x:=(.eq v31)) (ja R)) ?_)))
    refine At.d R R R R (jb (x:=(.eq v1)) (ja R)) ?_
    refine At.d R R R R (jb (x:=(.tv (kInt .i64) i6)) (ja R)) ?_
    obtain ⟨hq28,hF⟩:=hF
    refine At.d R R R R (does_idx_row (ja R) 1 R (ja R) Tryz.underlying45 ty_49 hq28) ?_
    refine At.d R R R R (does_field_elem (ja R) fa_49_4) ?_
    obtain ⟨hq29,hF⟩:=hF
    refine At.d R R R R (Jc (ja R) 1 R i6 6 R vz hq29 sub_ref13_Border_4 ty_41) ?_
    refine At.f R (jy R R R (os:=[.tmp 29]) R sl_28 (xs:=([(rd vz r1 i6).Owners]:List (List BA))) (jf (ja R) jg) R R) ?_
    rintro _ _ ⟨v34,rfl,rfl⟩
    obtain ⟨hq30,hF⟩:=hF
    refine At.f R (eff_append_row R R R 4 0 R R (ja R) (ja R) sl_28 hq30) ?_
    rintro _ _ ⟨v35,rfl,rfl⟩
    refine At.d R R R R (jd (x:=(.eq v35)) (ja R)) ?_
    refine At.done ?_
    refine At.n ?_
    refine At.vh (At.region (At.d R R R R (jb (x:=(.tv (kInt .i64) i6)) (ja R)) ?_))
    refine At.d R R R R (jk (ja R) (ji _ _) vc) ?_
    refine At.d R R R R (jd (x:=(.tv (kInt .i64) (w64 (i6+(1:Int))))) (ja R)) ?_
    refine At.done (At.vh ?_)
    refine At.w [2,3,4] R [(4,(.eq v1)),(5,(.eq v33)),(6,(.eq v35)),(7,(.tv (kInt .i64) (w64 (i6+(1:Int)))))] ⟨R,R,R,R,trivial⟩ (At.r ⟨(x13++([r6]:List Segment)),v33,(x14++([(rd vz r1 i6).Owners]:List (List BA))),v35,(w64 (i6+(1:Int))),hF,R,R⟩)
   ·replace hF:=W.ite_f hb5 hF
    refine At.exit ?_
    refine At.x (At.x ?_)
    refine At.h ?_
    refine At.vh ?_
    refine At.w [1,2] R [(5,(.eq v30)),(6,(.eq v31))] ⟨R,R,trivial⟩ (At.r ⟨x13,v30,x14,v31,hF,R,R⟩)
 ·rintro _ _ ⟨x7,v16,x8,v17,hF,rfl,rfl⟩
  unfold ref13_Segments.c1 at hF
  refine At.seq (At.region (At.d R R R R (jb (x:=(.eq v16)) (ja R)) ?_))
  refine At.d R R R R (jb (x:=(.eq v17)) (ja R)) ?_
  refine At.d R R R R (jd (x:=(.eq v16)) (ja R)) ?_
  refine At.d R R R R (jd (x:=(.eq v17)) (ja R)) ?_
  refine At.done (At.vh (At.ret ?_))
  exact At.ret_2 rfl (rv_tmp rfl) (rv_tmp rfl) [0,1] rfl ⟨(x7,x8),_,_,hF,rfl,rfl⟩
def law13_BorderMatchesReference.F (m1:Map):W Bool:=W.bind (law13_head.F) (fun r1=>W.bind (ref13_Few.F m1 (24:Int)) (fun r2=>W.ite (!r2) (W.ret r1) (W.bind (border_Segments.F m1) (fun r3=>W.bind (ref13_Segments.F m1) (fun r4=>W.bind (W.ite r1 (law13_segments.F r3.1 r4.1 r3.2 r4.2) (W.ret false)) (fun r5=>W.bind (W.ite (r1&&r5) (border_Check.F m1) (W.ret ([]:List Violation))) (fun r6=>W.bind (W.ite (r1&&r5) (ref13_Check.F m1) (W.ret ([]:List Violation))) (fun r7=>W.bind (W.ite (r1&&r5) (ref13_Same.F r6 r7) (W.ret false)) (fun r8=>W.ret ((r1&&r5)&&r8))))))))))
theorem law13_BorderMatchesReference.ok {m1:Map} {Q:Bool→Prop} (hF:law13_BorderMatchesReference.F m1 Q):Con Tryz.prog 3 [.tv kMap m1] [] (fun ta rs'=>∃ (r:Bool),Q r∧ta=.tv kBool r∧rs'=[]):=by
 refine Con.i Tryz.func3 Tryz.ntmps3 R R (fun C=>?_)
 unfold law13_BorderMatchesReference.F at hF
 refine At.seq (At.region (At.f R (jw R R R (ja R)) ?_))
 rintro _ _ ⟨g1,rfl,rfl⟩
 refine At.d R R R R (jd (x:=(.tv kBool false)) (jl _)) ?_
 refine At.done (At.vh (At.seq (At.region ?_)))
 replace hF:=W.vm hF
 refine At.f R (jn R R jp (jq R en_10 jg) (law13_head.ok hF) (by rintro _ _ ⟨r,_,rfl,_⟩;exact vl)) ?_
 rintro _ _ ⟨_,_,⟨r1,hF,rfl,rfl⟩,rfl,rfl⟩
 refine At.d R R R R (jd (x:=(.tv kBool r1)) (ja R)) ?_
 refine At.done (At.vh (At.seq (At.seq (At.region (At.d R R R R (jc (ja R) 0 R (Sub.self kMap) ty_24) ?_)))))
 replace hF:=W.vm hF
 refine At.f R (jn R R jp (jq R en_11 (jf (ja R) (jf (ji _ _) jg))) (ref13_Few.ok hF) (by rintro _ _ ⟨r,_,rfl,_⟩;exact vl)) ?_
 rintro _ _ ⟨_,_,⟨r2,hF,rfl,rfl⟩,rfl,rfl⟩
 refine At.d R R R R (does_not (ja R)) ?_
 refine At.done (At.vh ?_)
 refine At.cond (ja R) (fun hb1=>?_) (fun hb1=>?_)
 ·replace hF:=W.ite_t hb1 hF
  refine At.seq (At.region (At.d R R R R (jb (x:=(.tv kBool r1)) (ja R)) ?_))
  refine At.d R R R R (jd (x:=(.tv kBool r1)) (ja R)) ?_
  refine At.done (At.vh (At.ret (At.vi ?_)))
  exact At.j rfl (rv_tmp rfl) [] rfl ⟨r1,hF,rfl,rfl⟩
 ·replace hF:=W.ite_f hb1 hF
  refine At.skip (At.vh (At.seq (At.region (At.d R R R R (jc (ja R) 0 R (Sub.self kMap) ty_24) ?_))))
  replace hF:=W.vm hF
  refine At.f R (jo R R (jq R en_12 (jf (ja R) jg)) [] R (border_Segments.ok hF)) ?_
  rintro _ _ ⟨_,_,⟨r3,v1,v2,hF,rfl,rfl⟩,rfl,rfl⟩
  refine At.d R R R R (jb (x:=(.tup2 (.eq v1) (.eq v2))) (ja R)) ?_
  refine At.d R R R R (does_extract20 (ja R)) ?_
  refine At.d R R R R (does_extract21 (ja R)) ?_
  refine At.d R R R R (jd (x:=(.eq v1)) (ja R)) ?_
  refine At.d R R R R (jd (x:=(.eq v2)) (ja R)) ?_
  refine At.done (At.vh (At.seq (At.region (At.d R R R R (jc (ja R) 2 R (Sub.self kMap) ty_24) ?_))))
  replace hF:=W.vm hF
  refine At.f R (jo R R (jq R en_13 (jf (ja R) jg)) [] R (ref13_Segments.ok hF)) ?_
  rintro _ _ ⟨_,_,⟨r4,v3,v4,hF,rfl,rfl⟩,rfl,rfl⟩
  refine At.d R R R R (jb (x:=(.tup2 (.eq v3) (.eq v4))) (ja R)) ?_
  refine At.d R R R R (does_extract20 (ja R)) ?_
  refine At.d R R R R (does_extract21 (ja R)) ?_
  refine At.d R R R R (jd (x:=(.eq v3)) (ja R)) ?_
  refine At.d R R R R (jd (x:=(.eq v4)) (ja R)) ?_
  refine At.done (At.vh (At.seq ?_))
  refine At.draw mixed [0,1,2,3,4] R [[],[],[],[],[]] (fun φ w hgd=>?_)
  replace hF:=W.vm hF
  refine AtH.take [0,1,2,3,4] hgd 0 R R R R (D':=#[Y,N,N,N,N,N,N,N,N,N,N,N,N,N,N,N]) (by kernel_rfl) (fun _ _ _ _ h=>h) R (jb (x:=(.tv kBool r1)) (ja R)) ?_
  refine AtH.take [0,1,2,3,4] hgd 1 R R R R (D':=#[Y,Y,N,N,N,N,N,N,N,N,N,N,N,N,N,N]) (by kernel_rfl) (fun _ _ _ _ h=>h) R (jb (x:=(.tv kBool r1)) (ja R)) ?_
  refine AtH.vk [0,1,2,3,4] hgd 2 R R R (ju R) R R (D':=#[Y,Y,Y,N,N,N,N,N,N,N,N,N,N,N,N,N]) (by kernel_rfl) (fun _ _ _ _ h=>h) R (fun hg7=>(jb (x:=(.eq v1)) (ja R))) ?_
  refine AtH.vk [0,1,2,3,4] hgd 3 R R R (ju R) R R (D':=#[Y,Y,Y,Y,N,N,N,N,N,N,N,N,N,N,N,N]) (by kernel_rfl) (fun _ _ _ _ h=>h) R (fun hg8=>(jb (x:=(.eq v3)) (ja R))) ?_
  refine AtH.vk [0,1,2,3,4] hgd 4 R R R (ju R) R R (D':=#[Y,Y,Y,Y,Y,N,N,N,N,N,N,N,N,N,N,N]) (by kernel_rfl) (fun _ _ _ _ h=>h) R (fun hg9=>(jb (x:=(.eq v2)) (ja R))) ?_
  refine AtH.vk [0,1,2,3,4] hgd 5 R R R (ju R) R R (D':=#[Y,Y,Y,Y,Y,Y,N,N,N,N,N,N,N,N,N,N]) (by kernel_rfl) (fun _ _ _ _ h=>h) R (fun hg10=>(jb (x:=(.eq v4)) (ja R))) ?_
  refine AtH.all1 6 (by kernel_rfl) ?_
  refine AtH.effG [(0,0),(1,1),(2,2),(3,3),(4,4)] R R R R R R R (ju R) (D':=#[Y,Y,Y,Y,Y,Y,Y,N,N,N,N,N,N,N,N,N]) (by kernel_rfl) (by kernel_rfl) hF (fun r=>.tv kBool r) (fun _=>vl) (fun hg11 hF=>eff_of (jn R R (lends_rowW 2 25 R R (lends_rowW 0 26 R R (lends_rowW 3 27 R R (lends_rowW 1 28 R R jp)))) (jq R en_14 (jf (jh R hg11) (jf (jh R hg11) (jf (jh R hg11) (jf (jh R hg11) jg))))) (law13_segments.ok hF) (by rintro _ _ ⟨r,_,rfl,_⟩;exact vl)) (by rintro _ _ ⟨_,_,⟨r,hF,rfl,rfl⟩,rfl,rfl⟩;exact ⟨r,hF,R,R⟩)) (fun r5 hF=>?_)
  replace hF:=W.vm hF
  refine AtH.take [0,1,2,3,4] hgd 7 R R R R (D':=#[Y,Y,Y,Y,Y,Y,Y,Y,N,N,N,N,N,N,N,N]) (by kernel_rfl) (fun _ _ _ _ h=>h) R (jm (ja R) (ja R) (jl _) ve) ?_
  refine AtH.take [0,1,2,3,4] hgd 8 R R R R (D':=#[Y,Y,Y,Y,Y,Y,Y,Y,Y,N,N,N,N,N,N,N]) (by kernel_rfl) (fun _ _ _ _ h=>h) R (jb (x:=(.tv kBool (r1&&r5))) (ja R)) ?_
  refine AtH.vk [0,1,2,3,4] hgd 9 R R R (ju R) R R (D':=#[Y,Y,Y,Y,Y,Y,Y,Y,Y,Y,N,N,N,N,N,N]) (by kernel_rfl) (fun _ _ _ _ h=>h) R (fun hg12=>(jc (ja R) 4 R (Sub.self kMap) ty_24)) ?_
  refine AtH.vk [0,1,2,3,4] hgd 11 R R R (ju R) R R (D':=#[Y,Y,Y,Y,Y,Y,Y,Y,Y,Y,N,Y,N,N,N,N]) (by kernel_rfl) (fun _ _ _ _ h=>h) R (fun hg13=>(jc (ja R) 4 R (Sub.self kMap) ty_24)) ?_
  refine AtH.all1 10 (by kernel_rfl) ?_
  refine AtH.effGv [(0,0),(1,1),(2,2),(3,3),(4,4)] R R R R R R R (ju R) (D':=#[Y,Y,Y,Y,Y,Y,Y,Y,Y,Y,Y,Y,N,N,N,N]) (by kernel_rfl) (by kernel_rfl) hF (fun r=>.tv (kSlice kViolation) r) (fun hg14 hF=>eff_own1 R R (eff_of (jo R R (jq R en_16 (jf (jh R hg14) jg)) [] R (border_Check.ok hF)) (by rintro _ _ ⟨_,_,⟨r,u,hF,rfl,rfl⟩,rfl,rfl⟩;exact ⟨r,u,hF,R,R⟩))) (fun r6 hF=>?_)
  replace hF:=W.vm hF
  refine AtH.all1 12 (by kernel_rfl) ?_
  refine AtH.effGv [(0,0),(1,1),(2,2),(3,3),(4,4)] R R R R R R R (ju R) (D':=#[Y,Y,Y,Y,Y,Y,Y,Y,Y,Y,Y,Y,Y,N,N,N]) (by kernel_rfl) (by kernel_rfl) hF (fun r=>.tv (kSlice kViolation) r) (fun hg15 hF=>eff_of (jo R R (jq R en_17 (jf (jh R hg15) jg)) [] R (ref13_Check.ok hF)) (by rintro _ _ ⟨_,_,⟨r,hF,rfl,rfl⟩,rfl,rfl⟩;exact ⟨r,hF,R,R⟩)) (fun r7 hF=>?_)
  replace hF:=W.vm hF
  refine AtH.all1 13 (by kernel_rfl) ?_
  refine AtH.effG [(0,0),(1,1),(2,2),(3,3),(4,4)] R R R R R R R (ju R) (D':=#[Y,Y,Y,Y,Y,Y,Y,Y,Y,Y,Y,Y,Y,Y,N,N]) (by kernel_rfl) (by kernel_rfl) hF (fun r=>.tv kBool r) (fun _=>vl) (fun hg16 hF=>eff_of (jn R R jp (jq R en_15 (jf (jh R hg16) (jf (jh R hg16) jg))) (ref13_Same.ok hF) (by rintro _ _ ⟨r,_,rfl,_⟩;exact vl)) (by rintro _ _ ⟨_,_,⟨r,hF,rfl,rfl⟩,rfl,rfl⟩;exact ⟨r,hF,R,R⟩)) (fun r8 hF=>?_)
  refine AtH.take [0,1,2,3,4] hgd 14 R R R R (D':=#[Y,Y,Y,Y,Y,Y,Y,Y,Y,Y,Y,Y,Y,Y,Y,N]) (by kernel_rfl) (fun _ _ _ _ h=>h) R (jm (ja R) (ja R) (jl _) ve) ?_
  refine AtH.take [0,1,2,3,4] hgd 15 R R R R (D':=#[Y,Y,Y,Y,Y,Y,Y,Y,Y,Y,Y,Y,Y,Y,Y,Y]) (by kernel_rfl) (fun _ _ _ _ h=>h) R (jd (x:=(.tv kBool ((r1&&r5)&&r8))) (ja R)) ?_
  refine AtH.done (by kernel_rfl) ?_
  refine At.vh (At.ret ?_)
  exact At.j rfl (rv_tmp rfl) [] rfl ⟨((r1&&r5)&&r8),hF,rfl,rfl⟩
end Go.Gp.Gb
end
section
set_option linter.unusedVariables false
set_option linter.unusedSimpArgs false
set_option maxRecDepth 100000
namespace Go.Proofs.YtfophhmfbofjiaaGreat.borderMatchesReference
open Go.ChangeShapes Go.WideShapes Go.ChangeAt Go.RowKit Go.Gp Go.Gp.Gb
theorem own:ownKnob Tryz.prog.godebug=none:=by kernel_rfl
theorem laidOut:laidOutB Tryz.prog=true:=by kernel_rfl
set_option maxRecDepth 100000 in
theorem lifted (pure:∀ (x0:Map),ok_Map x0→law13_BorderMatchesReference.F x0 (fun r=>r=true)) (os:Os) (started:os.Started) (H:Type) (enc:TypeId×Value→H) :
  ReturnsInHanded {} Tryz.checked os 3 .any (Rows.borderMatchesReferenceSpec.pre6 enc Tryz.prog Tryz.f3 Rows.borderMatchesReferenceRow.domain false) (Rows.borderMatchesReferenceSpec.post enc Tryz.prog Tryz.f3 false true false false):=by
 refine returnsInHanded_of_change (C:=Tryz.checked) own started (by kernel_rfl) Tryz.func3
  (ChangeSpec.witness6 (enc:=enc) (C:=Tryz.checked) false ⟨#[],#[.agg #[.slice none 0 0]],[]⟩ 8 (by kernel_rfl) (by kernel_rfl) (by kernel_rfl) (by kernel_rfl)) ?_
 intro W base args ds gs before hval0 hW hcnd _
 have hval:∀ (j:Nat) t v,Tryz.f3.params[j]?=some t→args[j]?=some v→Value.okWide Tryz.prog W .any base t v:=hval0
 have hW':=hW
 obtain ⟨p,q,hA0,hV,rfl,hfz,hnd⟩:=hW
 have hA:DataW.TrodAll enc Tryz.prog W 0 (fun _=>true) true Tryz.f3.params.toList args.toList ds p:=hA0
 rw [Tryz.params3] at hA hval
 obtain ⟨v0,vs0,d0,ds0,p0,q0,hargs,rfl,rfl,h0,r0⟩:=trodAll_cons hA
 obtain ⟨rfl,rfl,rfl⟩:=trodAll_nil r0
 obtain rfl:args=#[v0]:=by cases args;simp_all
 obtain ⟨rfl,rfl⟩:=trodVars_none hV
 obtain ⟨x0,hx0,ok0⟩:=opens_arg op_24 h0 (let ⟨cs,e,_⟩:=okWide_struct Tryz.underlying24 (hval 0 24 v0 rfl rfl);⟨cs,e⟩)
 have lt0:∀ x∈p0,x.block<W.heap.size:=by obtain ⟨m,hm⟩:=h0;exact DataW.trod_lt m _ _ _ hm
 refine (law_walk (law13_BorderMatchesReference.ok (pure x0 ok0)) (.cons hx0 .nil)).mono fun e W' ⟨he,bel⟩=>?_
 subst he
 exact ⟨_,rfl,_,_,_,[],_,[],hW',trodAll_mk1 (shut_bool Tryz.underlying4 _),(trodAll_cons_mk (Below.trod laidOut (by kernel_rfl) (of_decide_eq_true (by kernel_rfl)) h0 bel lt0) trodAll_mk0),rfl,bel.frame _,fun h=>by cases h⟩
theorem over (pure:∀ (x0:Map),ok_Map x0→law13_BorderMatchesReference.F x0 (fun r=>r=true)):Rows.borderMatchesReferenceRow.holds Tryz.pinned (OpenSpec.ofChange Rows.borderMatchesReferenceSpec):=
 OpenClaim.holds_of_wide 3 Tryz.f3 rfl rfl rfl rfl rfl rfl rfl ⟨rfl,rfl,rfl,rfl,rfl⟩ rfl rfl rfl rfl rfl (by kernel_rfl) Tryz.func3 (by kernel_rfl)
  (of_decide_eq_true (by kernel_rfl)) (by unfold Func.isWrapper;first | (rw [if_pos (by decide +kernel)];kernel_rfl) | (rw [if_neg (by decide +kernel)];exact ⟨rfl,rfl⟩))
  (fun os started H enc _=>lifted pure os started H enc)
end Go.Proofs.YtfophhmfbofjiaaGreat.borderMatchesReference
end
section
set_option linter.unusedVariables false
set_option linter.unusedSimpArgs false
namespace Go.Gp
theorem W.ite_iff {α:Type} {b:Bool} {x y:W α} {Q:α→Prop}:W.ite b x y Q↔(b=true→x Q)∧(b=false→y Q):=by
 cases b<;>simp [W.ite]
theorem W.ite_i {α:Type} {b:Bool} {x y:W α} {Q:α→Prop} (h1:b=true→x Q) (h2:b=false→y Q):W.ite b x y Q:=W.ite_iff.2 ⟨h1,h2⟩
theorem W.dec_i {α:Type} {p:Prop} [Decidable p] {x y:W α} {Q:α→Prop} (h1:p→x Q) (h2:¬ p→y Q):W.ite (decide p) x y Q:=W.ite_iff.2 ⟨fun h=>h1 (of_decide_eq_true h),fun h=>h2 (of_decide_eq_false h)⟩
theorem W.req_i {α:Type} {p:Prop} {m:W α} {Q:α→Prop} (h1:p) (h2:m Q):W.req p m Q:=⟨h1,h2⟩
theorem W.bind_i {α β:Type} {m:W α} {f:α→W β} {Q:β→Prop} (h:m (fun x=>f x Q)):W.bind m f Q:=h
theorem W.ite_same {α:Type} {b:Bool} {x y:W α} {Q:α→Prop} (h1:x Q) (h2:y Q):W.ite b x y Q:=W.ite_i (fun _=>h1) (fun _=>h2)
theorem W.loop1 {A R:Type} {B:(A→W R)→A→W R} {Q:R→Prop} (I:A→Prop) (m:A→Nat) (step:∀ K x,I x→(∀ y,I y→m y<m x→K y Q)→B K x Q) {x:A} (h:I x):(W.ex fun n=>W.iter1 B n x) Q:=by
 have key:∀ n x,I x→m x<n→W.iter1 B n x Q:=by
  intro n
  induction n with
  | zero=>intro x _ hm;omega
  | succ n ih=>intro x hx hm;exact step _ x hx fun y hy hlt=>ih y hy (by omega)
 exact ⟨m x+1,key _ x h (by omega)⟩
theorem W.loop2 {A C R:Type} {B:(A→C→W R)→A→C→W R} {Q:R→Prop} (I:A→C→Prop) (m:A→C→Nat) (step:∀ K x u,I x u→(∀ y v,I y v→m y v<m x u→K y v Q)→B K x u Q) {x:A} {u:C} (h:I x u):(W.ex fun n=>W.iter2 B n x u) Q:=by
 have key:∀ n x u,I x u→m x u<n→W.iter2 B n x u Q:=by
  intro n
  induction n with
  | zero=>intro x u _ hm;omega
  | succ n ih=>intro x u hx hm;exact step _ x u hx fun y v hy hlt=>ih y v hy (by omega)
 exact ⟨m x u+1,key _ x u h (by omega)⟩
theorem W.loop3 {A C D R:Type} {B:(A→C→D→W R)→A→C→D→W R} {Q:R→Prop} (I:A→C→D→Prop) (m:A→C→D→Nat) (step:∀ K x u s,I x u s→(∀ y v t,I y v t→m y v t<m x u s→K y v t Q)→B K x u s Q) {x:A} {u:C} {s:D} (h:I x u s):(W.ex fun n=>W.iter3 B n x u s) Q:=by
 have key:∀ n x u s,I x u s→m x u s<n→W.iter3 B n x u s Q:=by
  intro n
  induction n with
  | zero=>intro x u s _ hm;omega
  | succ n ih=>intro x u s hx hm;exact step _ x u s hx fun y v t hy hlt=>ih y v t hy (by omega)
 exact ⟨m x u s+1,key _ x u s h (by omega)⟩
theorem W.up1 {R:Type} {B:(Int→W R)→Int→W R} {Q:R→Prop} (n:Nat) (I:Nat→Prop) (h0:I 0) (step:∀ (K:Int→W R) (i:Nat),i≤n→I i→(i<n→I (i+1)→K ((i+1:Nat):Int) Q)→B K (i:Int) Q):(W.ex fun m=>W.iter1 B m (0:Int)) Q:=
 W.loop1 (fun x:Int=>∃ i:Nat,x=(i:Int)∧i≤n∧I i) (fun x=>n-x.toNat) (fun K x ⟨i,e,hi,hI⟩ hk=>by
  subst e
  exact step K i hi hI fun hl hI2=>hk _ ⟨i+1,rfl,hl,hI2⟩ (by omega)) ⟨0,rfl,Nat.zero_le _,h0⟩
theorem W.up2 {S R:Type} {B:(S→Int→W R)→S→Int→W R} {Q:R→Prop} (n:Nat) (I:Nat→S→Prop) {s0:S} (h0:I 0 s0) (step:∀ (K:S→Int→W R) (i:Nat) (s:S),i≤n→I i s→(i<n→∀ s',I (i+1) s'→K s' ((i+1:Nat):Int) Q)→B K s (i:Int) Q):(W.ex fun m=>W.iter2 B m s0 (0:Int)) Q:=
 W.loop2 (fun s (x:Int)=>∃ i:Nat,x=(i:Int)∧i≤n∧I i s) (fun s x=>n-x.toNat) (fun K s x ⟨i,e,hi,hI⟩ hk=>by
  subst e
  exact step K i s hi hI fun hl s' hI2=>hk s' _ ⟨i+1,rfl,hl,hI2⟩ (by omega)) ⟨0,rfl,Nat.zero_le _,h0⟩
theorem W.up3 {S T R:Type} {B:(S→T→Int→W R)→S→T→Int→W R} {Q:R→Prop} (n:Nat) (I:Nat→S→T→Prop) {s0:S} {t0:T} (h0:I 0 s0 t0) (step:∀ (K:S→T→Int→W R) (i:Nat) (s:S) (t:T),i≤n→I i s t→(i<n→∀ s' t',I (i+1) s' t'→K s' t' ((i+1:Nat):Int) Q)→B K s t (i:Int) Q):(W.ex fun m=>W.iter3 B m s0 t0 (0:Int)) Q:=
 W.loop3 (fun s t (x:Int)=>∃ i:Nat,x=(i:Int)∧i≤n∧I i s t) (fun s t x=>n-x.toNat) (fun K s t x ⟨i,e,hi,hI⟩ hk=>by
  subst e
  exact step K i s t hi hI fun hl s' t' hI2=>hk s' t' _ ⟨i+1,rfl,hl,hI2⟩ (by omega)) ⟨0,rfl,Nat.zero_le _,h0⟩
theorem w64_id {x:Int} (h1:-9223372036854775808≤x) (h2:x≤9223372036854775807):w64 x=x:=by
 simp [w64,IntKind.wrap,IntKind.bits,IntKind.signed]
 omega
theorem w64_succ {i:Nat} (h:i<9223372036854775807):w64 ((i:Int)+(1:Int))=((i+1:Nat):Int):=by
 rw [w64_id (by omega) (by omega)];omega
theorem maxLen_val:maxLen=9223372036854775807:=rfl
theorem bl_irr:∀ a:List UInt8,Op.bytesLess a a=false
 | []=>rfl
 | x::a=>by simp [Op.bytesLess,bl_irr a]
theorem bl_trans:∀ a b c:List UInt8,Op.bytesLess a b=true→Op.bytesLess b c=true→Op.bytesLess a c=true
 | _,[],_,h,_=>by simp [Op.bytesLess] at h
 | _,_::_,[],_,h=>by simp [Op.bytesLess] at h
 | [],_::_,_::_,_,_=>rfl
 | x::a,y::b,z::c,h,k=>by
  simp only [Op.bytesLess,Bool.or_eq_true,decide_eq_true_eq,Bool.and_eq_true,beq_iff_eq] at h k ⊢
  rcases h with h | ⟨rfl,h⟩
  ·rcases k with k | ⟨rfl,k⟩
   ·exact .inl (UInt8.lt_trans h k)
   ·exact .inl h
  ·rcases k with k | ⟨rfl,k⟩
   ·exact .inl k
   ·exact .inr ⟨rfl,bl_trans a b c h k⟩
theorem bl_tri:∀ a b:List UInt8,Op.bytesLess a b=true∨a=b∨Op.bytesLess b a=true
 | [],[]=>.inr (.inl rfl)
 | [],_::_=>.inl rfl
 | _::_,[]=>.inr (.inr rfl)
 | x::a,y::b=>by
  simp only [Op.bytesLess,Bool.or_eq_true,decide_eq_true_eq,Bool.and_eq_true,beq_iff_eq]
  rcases Nat.lt_trichotomy x.toNat y.toNat with h | h | h
  ·exact .inl (.inl (UInt8.lt_iff_toNat_lt.2 h))
  ·have e:x=y:=UInt8.toNat_inj.1 h
   subst e
   rcases bl_tri a b with h | rfl | h
   ·exact .inl (.inr ⟨rfl,h⟩)
   ·exact .inr (.inl rfl)
   ·exact .inr (.inr (.inr ⟨rfl,h⟩))
  ·exact .inr (.inr (.inl (UInt8.lt_iff_toNat_lt.2 h)))
theorem sLt_irr (a:ByteArray):sLt a a=false:=bl_irr _
theorem sLt_trans {a b c:ByteArray} (h:sLt a b=true) (k:sLt b c=true):sLt a c=true:=bl_trans _ _ _ h k
theorem sEq_eq {a b:ByteArray}:(sEq a b=true)=(a=b):=propext (sEq_iff a b)
theorem sEq_self (a:ByteArray):sEq a a=true:=(sEq_iff a a).2 rfl
theorem sEq_false {a b:ByteArray}:(sEq a b=false)=(a≠b):=by
 rw [← Bool.not_eq_true,sEq_eq]
theorem toList_inj {a b:ByteArray} (h:a.toList=b.toList):a=b:=(sEq_iff a b).1 (by simp [sEq,h])
theorem sLt_tri (a b:ByteArray):sLt a b=true∨a=b∨sLt b a=true:=by
 rcases bl_tri a.toList b.toList with h | h | h
 ·exact .inl h
 ·exact .inr (.inl (toList_inj h))
 ·exact .inr (.inr h)
theorem sLt_asymm {a b:ByteArray} (h:sLt a b=true):sLt b a=false:=by
 cases k:sLt b a with
 | false=>rfl
 | true=>have:=sLt_trans h k;rw [sLt_irr] at this;cases this
theorem sLt_ne {a b:ByteArray} (h:sLt a b=true):a≠b:=fun e=>by rw [e,sLt_irr] at h;cases h
theorem sLe_not {a b:ByteArray}:((sLt b a||sEq b a)=false)=(sLt a b=true):=by
 apply propext
 rw [Bool.or_eq_false_iff,sEq_false]
 constructor
 ·rintro ⟨h1,h2⟩
  rcases sLt_tri a b with h | h | h
  ·exact h
  ·exact absurd h.symm h2
  ·rw [h1] at h;cases h
 ·intro h
  exact ⟨sLt_asymm h,fun e=>sLt_ne h e.symm⟩
theorem sLe_is {a b:ByteArray}:((sLt b a||sEq b a)=true)=(sLt a b=false):=by
 apply propext
 rw [← Bool.not_eq_false,sLe_not,Bool.not_eq_true]
theorem sLe_eq {a b:ByteArray}:(sLt a b||sEq a b)=!(sLt b a):=by
 cases h:sLt b a with
 | true=>exact sLe_not.mpr h
 | false=>exact sLe_is.mpr h
theorem size_toList (a:ByteArray):a.toList=a.data.toList:=ByteArray.toList_eq a
theorem sLt_empty {a:ByteArray} (h:a≠⟨#[]⟩):sLt ⟨#[]⟩ a=true:=by
 rcases sLt_tri ⟨#[]⟩ a with k | k | k
 ·exact k
 ·exact absurd k.symm h
 ·exfalso
  unfold sLt at k
  have e:(⟨#[]⟩:ByteArray).toList=[]:=by rw [size_toList]
  rw [e] at k
  cases hh:a.toList<;>rw [hh] at k<;>cases k
theorem rd_nat {α:Type} {z:α} {xs:List α} {i:Nat} (h:i<xs.length):rd z xs (i:Int)=xs[i]:=by
 simp [rd,h]
theorem mget_mset {κ ν:Type} [DecidableEq κ] (k k':κ) (z v:ν):∀ m:List (κ×ν),mget k z (mset k' v m)=if k'=k then v else mget k z m
 | []=>by simp only [mset,mget]
 | (a,x)::m=>by
  simp only [mset]
  by_cases h:a=k'
  ·subst h
   by_cases h2:a=k
   ·simp [mget,h2]
   ·simp [mget,h2]
  ·simp only [if_neg h,mget,mget_mset k k' z v m]
   by_cases h2:a=k
   ·subst h2;simp [Ne.symm h]
   ·simp [h2]
end Go.Gp
end
section
set_option linter.unusedVariables false
set_option linter.unusedSimpArgs false
set_option maxRecDepth 10000
namespace Go.Gp.Gb
def isLetter (b:Int):Bool:=decide (97≤b)&&decide (b≤122)||decide (65≤b)&&decide (b≤90)
def isDigit (b:Int):Bool:=decide (48≤b)&&decide (b≤57)
def isWord (b:Int):Bool:=isLetter b||isDigit b||b==95
def NameOk (s:ByteArray):Prop:=0<s.size∧s.size≤24∧isLetter (byteAt s 0)=true∧∀ i,i<s.size→isWord (byteAt s (i:Int))=true
theorem byteAt_range (s:ByteArray) (i:Int):0≤byteAt s i∧byteAt s i<256:=by
 unfold byteAt
 split
 ·rename_i b _
  have:=b.toNat_lt
  omega
 ·omega
theorem ref08_word_spec {c:Int} {Q:Bool→Prop} (h:Q (isWord c)):ref08_word.F c Q:=by
 show W.bind (W.ite (!(isLetter c)) (ref08_digit.F c) (W.ret false)) (fun r2=>W.ret ((isLetter c||r2)||(c==(95:Int)))) Q
 refine W.ite_i (fun hl=>?_) (fun hl=>?_)
 ·exact h
 ·have e:isLetter c=true:=by simpa using hl
  show Q ((isLetter c||false)||(c==(95:Int)))
  have:isWord c=((isLetter c||false)||(c==(95:Int))):=by simp [isWord,e]
  rwa [this] at h
theorem ref08_Name_spec {s:ByteArray} (hs:s.size≤maxLen) {Q:Bool→Prop} (h1:NameOk s→Q true) (h2:¬ NameOk s→Q false):ref08_Name.F s Q:=by
 rw [maxLen_val] at hs
 refine W.up1 s.size (fun i=>∀ j,j<i→isWord (byteAt s (j:Int))=true) (fun j h=>by omega) (fun K i hi hI hk=>?_)
 refine W.dec_i (fun hlt=>W.req_i ⟨by omega,hlt⟩ (ref08_word_spec ?_)) (fun hge=>?_)
 ·refine W.ite_i (fun hw=>?_) (fun hw=>?_)
  ·exact h2 fun hn=>by
    have:=hn.2.2.2 i (by omega)
    rw [this] at hw;cases hw
  ·rw [w64_succ (by omega)]
   refine hk (by omega) fun j hj=>?_
   by_cases e:j=i
   ·subst e;simpa using hw
   ·exact hI j (by omega)
 ·have hie:i=s.size:=by omega
  subst hie
  refine W.req_i (fun hb=>by simp only [Bool.and_eq_true,decide_eq_true_eq] at hb;omega) ?_
  refine W.ite_i (fun hb=>?_) (fun hb=>?_)
  ·simp only [Bool.and_eq_true,decide_eq_true_eq] at hb
   show Q (((decide ((0:Int)<(s.size:Int)))&&(decide ((s.size:Int)≤(24:Int))))&&isLetter (byteAt s 0))
   have e1:decide ((0:Int)<(s.size:Int))=true:=decide_eq_true hb.1
   have e2:decide ((s.size:Int)≤(24:Int))=true:=decide_eq_true hb.2
   rw [e1,e2,Bool.true_and,Bool.true_and]
   cases hl:isLetter (byteAt s 0) with
   | true=>exact h1 ⟨by omega,by omega,hl,hI⟩
   | false=>exact h2 fun hn=>by rw [hn.2.2.1] at hl;cases hl
  ·show Q (((decide ((0:Int)<(s.size:Int)))&&(decide ((s.size:Int)≤(24:Int))))&&false)
   rw [Bool.and_false]
   exact h2 fun hn=>by
    have:(decide ((0:Int)<(s.size:Int))&&decide ((s.size:Int)≤(24:Int)))=true:=by simp only [Bool.and_eq_true,decide_eq_true_eq];have:=hn.1;have:=hn.2.1;omega
    rw [this] at hb;cases hb
structure Cls (x:List Int) (n:Nat):Prop where
 len:x.length=256
 old:∀ j:Nat,j<n→(rd 0 x (j:Int)=3↔isLetter j=true)∧(rd 0 x (j:Int)=4↔isDigit j=true)∧rd 0 x (j:Int)≠5
theorem rd_set {α:Type} {z v:α} {x:List α} {i j:Nat} (hi:i<x.length):rd z (x.set i v) (j:Int)=if j=i then v else rd z x (j:Int):=by
 simp only [rd,Int.toNat_natCast,List.getD_eq_getElem?_getD,List.getElem?_set]
 by_cases e:i=j
 ·subst e;simp [hi]
 ·rw [if_neg e,if_neg (fun h=>e h.symm)]
theorem Cls.set {x:List Int} {n:Nat} (h:Cls x n) (hn:n<256) {v:Int} (h1:v=3↔isLetter n=true) (h2:v=4↔isDigit n=true) (h3:v≠5):Cls (x.set n v) (n+1):=by
 refine ⟨by rw [List.length_set];exact h.len,fun j hj=>?_⟩
 rw [rd_set (by rw [h.len];exact hn)]
 by_cases e:j=n
 ·subst e;rw [if_pos rfl];exact ⟨h1,h2,h3⟩
 ·rw [if_neg e];exact h.old j (by omega)
theorem rd_rep {α:Type} {z:α} (n:Nat) (i:Int):rd z (List.replicate n z) i=z:=by
 simp only [rd,List.getD_eq_getElem?_getD,List.getElem?_replicate]
 split<;>rfl
structure ClsOk (x:List Int):Prop where
 len:x.length=256
 is:∀ c:Int,0≤c→c<256→(rd 0 x c=3↔isLetter c=true)∧(rd 0 x c=4↔isDigit c=true)∧(rd 0 x c=5↔c=95)
theorem wrap_u8 {x:Int} (h0:0≤x) (h1:x<256):IntKind.wrap .u8 x=x:=by
 simp [IntKind.wrap,IntKind.bits,IntKind.signed]
 omega
theorem letter_not_digit (c:Int) (h:isLetter c=true):isDigit c=false:=by
 simp only [isLetter,isDigit,Bool.or_eq_true,Bool.and_eq_true,decide_eq_true_eq,Bool.and_eq_false_iff,decide_eq_false_iff_not] at h ⊢
 omega
theorem lexer_classes_spec {Q:List Int→Prop} (h:∀ x,ClsOk x→Q x):lexer_classes.F Q:=by
 refine W.up2 256 (fun n x=>Cls x n∧∀ j:Nat,n≤j→j<256→rd 0 x (j:Int)=0) ⟨⟨by simp,fun j h=>by omega⟩,fun j _ hj=>rd_rep _ _⟩ (fun K n x hn hI hk=>?_)
 obtain ⟨hI,hz⟩:=hI
 refine W.dec_i (fun hlt=>?_) (fun hge=>?_)
 ·have hn2:n<256:=by omega
  have hw:IntKind.wrap .u8 (n:Int)=(n:Int):=wrap_u8 (by omega) (by omega)
  have hrest:∀ (v:Int) ,∀ j:Nat,n+1≤j→j<256→rd 0 (x.set n v) (j:Int)=0:=fun v j h1 h2=>by
   rw [rd_set (by rw [hI.len];exact hn2),if_neg (by omega)];exact hz j (by omega) h2
  have key:∀ b:Bool,(b=true→isLetter n=true)→(b=false→isLetter n=false)→lexer_classes.c2 x (n:Int) K b Q:=by
   intro b hb1 hb2
   refine W.ite_i (fun hb=>?_) (fun hb=>?_)
   ·refine W.req_i ⟨by omega,hlt⟩ ?_
    rw [w64_succ (by omega)]
    refine hk hn2 _ ⟨hI.set hn2 (by simp [hb1 hb]) (by simp [letter_not_digit _ (hb1 hb)]) (by decide),hrest 3⟩
   ·have hl:=hb2 hb
    rw [hw]
    refine W.ite_i (fun hd=>?_) (fun hd=>?_)
    ·refine W.req_i ⟨by omega,hlt⟩ ?_
     rw [w64_succ (by omega)]
     exact hk hn2 _ ⟨hI.set hn2 (by simp [hl]) (by simp [isDigit];simpa using hd) (by decide),hrest 4⟩
    ·have hdd:isDigit n=false:=hd
     refine W.ite_i (fun _=>?_) (fun _=>?_)
     ·refine W.req_i ⟨by omega,hlt⟩ ?_
      rw [w64_succ (by omega)]
      exact hk hn2 _ ⟨hI.set hn2 (by simp [hl]) (by simp [hdd]) (by decide),hrest 1⟩
     ·refine W.ite_i (fun _=>?_) (fun _=>?_)
      ·refine W.req_i ⟨by omega,hlt⟩ ?_
       rw [w64_succ (by omega)]
       exact hk hn2 _ ⟨hI.set hn2 (by simp [hl]) (by simp [hdd]) (by decide),hrest 6⟩
      ·rw [w64_succ (by omega)]
       refine hk hn2 _ ⟨⟨hI.len,fun j hj=>?_⟩,fun j h1 h2=>hz j (by omega) h2⟩
       by_cases e:j=n
       ·subst e;rw [hz j (Nat.le_refl _) hn2];simp [hl,hdd]
       ·exact hI.old j (by omega)
  rw [hw]
  refine W.ite_i (fun h1=>key _ (fun _=>by simp only [isLetter,h1,Bool.true_or]) (fun h2=>by rw [h1] at h2;cases h2)) (fun h1=>key _ (fun h2=>by simp only [isLetter,h2,Bool.or_true]) (fun h2=>by simp only [isLetter,h1,h2,Bool.or_false]))
 ·have hne:n=256:=by omega
  subst hne
  refine W.req_i (by omega) (W.req_i (by omega) (W.req_i (by omega) (h _ ⟨?_,fun c h0 h1=>?_⟩)))
  ·simp [aset_176,hI.len]
  ·obtain ⟨k,rfl⟩:=Int.eq_ofNat_of_zero_le h0
   have hk2:k<256:=by omega
   simp only [aset_176]
   rw [show (34:Int).toNat=34 from rfl,show (95:Int).toNat=95 from rfl,show (35:Int).toNat=35 from rfl,rd_set (by simp [hI.len]),rd_set (by simp [hI.len]),rd_set (by simp [hI.len])]
   have ho:=hI.old k hk2
   by_cases e1:k=34
   ·subst e1;simp [isLetter,isDigit]
   ·rw [if_neg e1]
    by_cases e2:k=95
    ·subst e2;simp [isLetter,isDigit]
    ·rw [if_neg e2]
     by_cases e3:k=35
     ·subst e3;simp [isLetter,isDigit]
     ·rw [if_neg e3]
      exact ⟨ho.1,ho.2.1,⟨fun hh=>absurd hh ho.2.2,fun hh=>absurd hh (by omega)⟩⟩
theorem size_zero {s:ByteArray} (h:s.size=0):s=⟨#[]⟩:=by
 apply toList_inj
 rw [size_toList,size_toList]
 exact List.eq_nil_of_length_eq_zero (by rw [Array.length_toList];exact h)
theorem lexer_Name_spec {s:ByteArray} (hs:s.size≤maxLen) {Q:Bool→Prop} (h1:NameOk s→Q true) (h2:¬ NameOk s→Q false):lexer_Name.F s Q:=by
 rw [maxLen_val] at hs
 refine lexer_classes_spec fun x hx=>?_
 refine W.up1 s.size (fun i=>(∀ j,j<i→isWord (byteAt s (j:Int))=true)∧(0<i→isLetter (byteAt s 0)=true)) ⟨fun j h=>by omega,fun h=>by omega⟩ (fun K i hi hI hk=>?_)
 refine W.dec_i (fun hlt=>W.req_i ⟨by omega,hlt⟩ (W.req_i (byteAt_range _ _) ?_)) (fun hge=>?_)
 ·have hc:=hx.is (byteAt s (i:Int)) (byteAt_range _ _).1 (byteAt_range _ _).2
  have a1:aget_176 x (byteAt s (i:Int))=rd 0 x (byteAt s (i:Int)):=rfl
  refine W.ite_i (fun hw=>?_) (fun hw=>?_)
  ·refine h2 fun hn=>?_
   simp only [a1,Bool.and_eq_true,Bool.or_eq_true,bne_iff_ne,ne_eq,beq_iff_eq,hc.1,hc.2.1,hc.2.2] at hw
   obtain ⟨g1,g2⟩:=hw
   have hwd:=hn.2.2.2 i (by omega)
   rcases g2 with g2 | ⟨g2,g3⟩
   ·have e:i=0:=by omega
    subst e
    exact g1 hn.2.2.1
   ·simp only [isWord,Bool.or_eq_true,beq_iff_eq] at hwd
    rcases hwd with (hwd | hwd) | hwd
    ·exact g1 hwd
    ·exact g2 hwd
    ·exact g3 hwd
  ·rw [w64_succ (by omega)]
   simp only [a1,Bool.and_eq_false_iff,Bool.or_eq_false_iff,bne_eq_false_iff_eq,beq_eq_false_iff_ne,ne_eq,hc.1,hc.2.1,hc.2.2] at hw
   have hword:isWord (byteAt s (i:Int))=true:=by
    simp only [isWord,Bool.or_eq_true,beq_iff_eq]
    rcases hw with hw | ⟨_,hw | hw⟩
    ·exact .inl (.inl hw)
    ·exact .inl (.inr hw)
    ·exact .inr hw
   refine hk (by omega) ⟨fun j hj=>?_,fun _=>?_⟩
   ·by_cases e:j=i
    ·subst e;exact hword
    ·exact hI.1 j (by omega)
   ·by_cases e:i=0
    ·subst e
     rcases hw with hw | ⟨hw,_⟩
     ·exact hw
     ·exact absurd rfl hw
    ·exact hI.2 (by omega)
 ·have hie:i=s.size:=by omega
  subst hie
  have e0:(!(sEq s (⟨#[]⟩:ByteArray)))=decide (0<s.size):=by
   by_cases e:s=⟨#[]⟩
   ·subst e;rw [sEq_self];rfl
   ·have:sEq s ⟨#[]⟩=false:=by rw [sEq_false];exact e
    rw [this]
    have hp:0<s.size:=Nat.pos_of_ne_zero fun h0=>e (size_zero h0)
    rw [decide_eq_true hp];rfl
  show Q ((!(sEq s (⟨#[]⟩:ByteArray)))&&(decide ((s.size:Int)≤(24:Int))))
  rw [e0]
  by_cases hp:0<s.size
  ·by_cases hq:s.size≤24
   ·have:(decide (0<s.size)&&decide ((s.size:Int)≤(24:Int)))=true:=by simp only [Bool.and_eq_true,decide_eq_true_eq];omega
    rw [this]
    exact h1 ⟨hp,hq,hI.2 hp,hI.1⟩
   ·have:(decide (0<s.size)&&decide ((s.size:Int)≤(24:Int)))=false:=by simp only [Bool.and_eq_false_iff,decide_eq_false_iff_not];omega
    rw [this]
    exact h2 fun hn=>hq hn.2.1
  ·have:(decide (0<s.size)&&decide ((s.size:Int)≤(24:Int)))=false:=by simp only [Bool.and_eq_false_iff,decide_eq_false_iff_not];omega
   rw [this]
   exact h2 fun hn=>hp hn.1
theorem lexer_Name_b {s:ByteArray} (hs:s.size≤maxLen) {Q:Bool→Prop} (h:∀ b,(b=true↔NameOk s)→Q b):lexer_Name.F s Q:=lexer_Name_spec hs (fun k=>h true (by simp [k])) (fun k=>h false (by simp [k]))
theorem ref08_Name_b {s:ByteArray} (hs:s.size≤maxLen) {Q:Bool→Prop} (h:∀ b,(b=true↔NameOk s)→Q b):ref08_Name.F s Q:=ref08_Name_spec hs (fun k=>h true (by simp [k])) (fun k=>h false (by simp [k]))
structure TagsOk (l:List Tag):Prop where
 few:l.length≤60
 each:∀ i:Nat,i<l.length→NameOk (rd zTag l (i:Int)).Key∧1≤(rd zTag l (i:Int)).Value.size∧(rd zTag l (i:Int)).Value.size≤200
 rise:∀ i:Nat,i+1<l.length→sLt (rd zTag l (i:Int)).Key (rd zTag l ((i+1:Nat):Int)).Key=true
theorem NameOk.ne {s:ByteArray} (h:NameOk s):s≠⟨#[]⟩:=fun e=>by
 have:=h.1
 rw [e] at this
 exact absurd this (by decide)
theorem size_pos {s:ByteArray}:sEq s ⟨#[]⟩=decide (s.size<1):=by
 by_cases e:s=⟨#[]⟩
 ·subst e;rw [sEq_self];rfl
 ·have h1:sEq s ⟨#[]⟩=false:=by rw [sEq_false];exact e
  rw [h1]
  have:¬ s.size<1:=fun h=>e (size_zero (by omega))
  rw [decide_eq_false this]
def keysFit (l:List Tag):Prop:=∀ i:Nat,i<l.length→(rd zTag l (i:Int)).Key.size≤maxLen
theorem tag_Valid_spec {l:List Tag} (hl:l.length≤maxLen) (hk:keysFit l) {Q:Bool→Prop} (h1:TagsOk l→Q true) (h2:¬ TagsOk l→Q false):tag_Valid.F l Q:=by
 rw [maxLen_val] at hl
 refine W.up2 l.length (fun i last=>(∀ j:Nat,j<i→NameOk (rd zTag l (j:Int)).Key∧1≤(rd zTag l (j:Int)).Value.size∧(rd zTag l (j:Int)).Value.size≤200)∧(∀ j:Nat,j+1<i→sLt (rd zTag l (j:Int)).Key (rd zTag l ((j+1:Nat):Int)).Key=true)∧(i=0→last=⟨#[]⟩)∧(∀ j,i=j+1→last=(rd zTag l (j:Int)).Key)) ⟨fun j h=>by omega,fun j h=>by omega,fun _=>rfl,fun j h=>by omega⟩ (fun K i last hi hI hK=>?_)
 obtain ⟨g1,g2,g3,g4⟩:=hI
 refine W.dec_i (fun hlt=>W.req_i ⟨by omega,hlt⟩ ?_) (fun hge=>?_)
 ·have hi2:i<l.length:=by omega
  refine lexer_Name_b (hk i hi2) fun b hb=>?_
  refine W.ite_i (fun hw=>?_) (fun hw=>?_)
  ·refine h2 fun hn=>?_
   have he:=hn.each i hi2
   rw [sLe_eq] at hw
   simp only [Bool.or_eq_true,decide_eq_true_eq,size_pos,Bool.not_eq_true'] at hw
   rcases hw with ((hw | hw) | hw) | hw
   ·have:=hb.2 he.1;rw [this] at hw;cases hw
   ·by_cases e:i=0
    ·rw [g3 e,sLt_empty he.1.ne] at hw;cases hw
    ·obtain ⟨j,rfl⟩:∃ j,i=j+1:=⟨i-1,by omega⟩
     rw [g4 j rfl,hn.rise j hi2] at hw;cases hw
   ·omega
   ·omega
  ·rw [w64_succ (by omega)]
   rw [sLe_eq] at hw
   simp only [Bool.or_eq_false_iff,decide_eq_false_iff_not,size_pos,Bool.not_eq_false'] at hw
   obtain ⟨⟨⟨hw1,hw2⟩,hw3⟩,hw4⟩:=hw
   refine hK hi2 _ ⟨fun j hj=>?_,fun j hj=>?_,fun e=>by omega,fun j e=>?_⟩
   ·by_cases e:j=i
    ·subst e;exact ⟨hb.1 hw1,by omega,by omega⟩
    ·exact g1 j (by omega)
   ·by_cases e:j+1=i
    ·subst e;rw [← g4 j rfl];exact hw2
    ·exact g2 j (by omega)
   ·have:j=i:=by omega
    subst this;rfl
 ·have hie:i=l.length:=by omega
  subst hie
  show Q (decide ((l.length:Int)≤(60:Int)))
  by_cases hf:l.length≤60
  ·rw [decide_eq_true (by omega)];exact h1 ⟨hf,g1,g2⟩
  ·rw [decide_eq_false (by omega)];exact h2 fun hn=>hf hn.few
theorem ref11_Tags_spec {l:List Tag} (hl:l.length≤maxLen) (hk:keysFit l) {Q:Bool→Prop} (h1:TagsOk l→Q true) (h2:¬ TagsOk l→Q false):ref11_Tags.F l Q:=by
 rw [maxLen_val] at hl
 refine W.dec_i (fun hlt=>h2 fun hn=>by have:=hn.few;omega) (fun hge=>?_)
 have hf:l.length≤60:=by omega
 refine W.up1 l.length (fun i=>(∀ j:Nat,j<i→NameOk (rd zTag l (j:Int)).Key∧1≤(rd zTag l (j:Int)).Value.size∧(rd zTag l (j:Int)).Value.size≤200)∧(∀ j:Nat,j+1<i→sLt (rd zTag l (j:Int)).Key (rd zTag l ((j+1:Nat):Int)).Key=true)) ⟨fun j h=>by omega,fun j h=>by omega⟩ (fun K i hi hI hK=>?_)
 obtain ⟨g1,g2⟩:=hI
 refine W.dec_i (fun hlt=>W.req_i ⟨by omega,hlt⟩ ?_) (fun hge=>?_)
 case refine_2=>
  have:i=l.length:=by omega
  subst this
  exact h1 ⟨hf,g1,g2⟩
 have hi2:i<l.length:=by omega
 have hm:∀ (h:0<(i:Int)),w64 ((i:Int)-(1:Int))=((i-1:Nat):Int):=fun h=>by rw [w64_id (by omega) (by omega)];omega
 refine ref08_Name_b (hk i hi2) fun b hb=>W.req_i (fun _=>⟨by omega,by omega⟩) (W.req_i (fun _=>⟨by omega,by omega⟩) (W.req_i (fun h=>by
   simp only [Bool.and_eq_true,decide_eq_true_eq] at h
   rw [hm h.2];omega) (W.req_i (fun _=>⟨by omega,by omega⟩) ?_)))
 refine W.ite_i (fun hw=>?_) (fun hw=>?_)
 ·refine h2 fun hn=>?_
  have he:=hn.each i hi2
  simp only [Bool.or_eq_true,decide_eq_true_eq,Bool.not_eq_true',Bool.and_eq_true] at hw
  rcases hw with ((hw | hw) | hw) | ⟨hw0,hw⟩
  ·have:=hb.2 he.1;rw [this] at hw;cases hw
  ·omega
  ·omega
  ·rw [hm hw0] at hw
   have:=hn.rise (i-1) (by omega)
   rw [show i-1+1=i by omega,hw] at this
   cases this
 ·rw [w64_succ (by omega)]
  simp only [Bool.or_eq_false_iff,decide_eq_false_iff_not,Bool.not_eq_false',Bool.and_eq_false_iff] at hw
  obtain ⟨⟨⟨hw1,hw2⟩,hw3⟩,hw4⟩:=hw
  refine hK hi2 ⟨fun j hj=>?_,fun j hj=>?_⟩
  ·by_cases e:j=i
   ·subst e;exact ⟨hb.1 hw1,by omega,by omega⟩
   ·exact g1 j (by omega)
  ·by_cases e:j+1=i
   ·subst e
    rcases hw4 with hw4 | hw4
    ·omega
    ·rw [hm (by omega)] at hw4;simpa using hw4
   ·exact g2 j (by omega)
theorem tag_Valid_b {l:List Tag} (hl:l.length≤maxLen) (hk:keysFit l) {Q:Bool→Prop} (h:∀ b,(b=true↔TagsOk l)→Q b):tag_Valid.F l Q:=tag_Valid_spec hl hk (fun k=>h true (by simp [k])) (fun k=>h false (by simp [k]))
theorem ref11_Tags_b {l:List Tag} (hl:l.length≤maxLen) (hk:keysFit l) {Q:Bool→Prop} (h:∀ b,(b=true↔TagsOk l)→Q b):ref11_Tags.F l Q:=ref11_Tags_spec hl hk (fun k=>h true (by simp [k])) (fun k=>h false (by simp [k]))
abbrev rs (l:List ByteArray) (i:Nat):ByteArray:=rd (⟨#[]⟩:ByteArray) l (i:Int)
def KindOk (k:Int):Prop:=1≤k∧k≤5
theorem object_word_b {k:Int} {Q:ByteArray→Prop} (h:∀ r,(sEq r ⟨#[]⟩=true↔¬ KindOk k)→Q r):object_word.F k Q:=by
 refine W.ite_i (fun hk=>?_) (fun hk=>?_)
 ·simp only [Bool.or_eq_true,decide_eq_true_eq] at hk
  exact h _ (by simp only [sEq_self,true_iff];unfold KindOk;omega)
 ·simp only [Bool.or_eq_false_iff,decide_eq_false_iff_not] at hk
  refine W.req_i (by omega) ?_
  have:k=0∨k=1∨k=2∨k=3∨k=4∨k=5:=by omega
  rcases this with rfl | rfl | rfl | rfl | rfl | rfl
  ·show Q (⟨#[]⟩:ByteArray)
   exact h _ (by rw [sEq_self];exact iff_of_true rfl (fun hh=>absurd hh.1 (by decide)))
  ·show Q (⟨#[110,111,100,101]⟩:ByteArray)
   exact h _ (iff_of_false (by rw [size_pos];decide) (fun hn=>hn ⟨by decide,by decide⟩))
  ·show Q (⟨#[119,97,121]⟩:ByteArray)
   exact h _ (iff_of_false (by rw [size_pos];decide) (fun hn=>hn ⟨by decide,by decide⟩))
  ·show Q (⟨#[97,114,101,97]⟩:ByteArray)
   exact h _ (iff_of_false (by rw [size_pos];decide) (fun hn=>hn ⟨by decide,by decide⟩))
  ·show Q (⟨#[114,111,117,116,101]⟩:ByteArray)
   exact h _ (iff_of_false (by rw [size_pos];decide) (fun hn=>hn ⟨by decide,by decide⟩))
  ·show Q (⟨#[116,117,114,110]⟩:ByteArray)
   exact h _ (iff_of_false (by rw [size_pos];decide) (fun hn=>hn ⟨by decide,by decide⟩))
theorem ref11_Word_b {k:Int} {Q:ByteArray→Prop} (h:∀ r,(sEq r ⟨#[]⟩=true↔¬ KindOk k)→Q r):ref11_Word.F k Q:=by
 refine W.ite_i (fun hk=>?_) (fun hk=>?_)
 ·simp only [Bool.or_eq_true,decide_eq_true_eq] at hk
  exact h _ (by simp only [sEq_self,true_iff];unfold KindOk;omega)
 ·simp only [Bool.or_eq_false_iff,decide_eq_false_iff_not] at hk
  refine W.req_i (by simp only [List.length_cons,List.length_nil];omega) (W.req_i (by simp only [List.length_cons,List.length_nil];omega) ?_)
  have:k=1∨k=2∨k=3∨k=4∨k=5:=by omega
  rcases this with rfl | rfl | rfl | rfl | rfl
  ·show Q (⟨#[110,111,100,101]⟩:ByteArray)
   exact h _ (iff_of_false (by rw [size_pos];decide) (fun hn=>hn ⟨by decide,by decide⟩))
  ·show Q (⟨#[119,97,121]⟩:ByteArray)
   exact h _ (iff_of_false (by rw [size_pos];decide) (fun hn=>hn ⟨by decide,by decide⟩))
  ·show Q (⟨#[97,114,101,97]⟩:ByteArray)
   exact h _ (iff_of_false (by rw [size_pos];decide) (fun hn=>hn ⟨by decide,by decide⟩))
  ·show Q (⟨#[114,111,117,116,101]⟩:ByteArray)
   exact h _ (iff_of_false (by rw [size_pos];decide) (fun hn=>hn ⟨by decide,by decide⟩))
  ·show Q (⟨#[116,117,114,110]⟩:ByteArray)
   exact h _ (iff_of_false (by rw [size_pos];decide) (fun hn=>hn ⟨by decide,by decide⟩))
structure Refs1 (k:Int) (l:List ByteArray) (n:Nat):Prop where
 name:∀ i:Nat,i<n→NameOk (rs l i)
 way:k=2→∀ i:Nat,i+1<n→rs l i≠rs l (i+1)
 area:k=3→∀ i j:Nat,i<j→j<n→rs l i≠rs l j
def CountOk (k:Int) (n:Nat):Prop:=n≤2000∧(k=1→n=0)∧(k=2→2≤n)∧(k=3→3≤n)∧(k=4→1≤n)∧(k=5→n=3)
def refsFit (l:List ByteArray):Prop:=∀ i:Nat,i<l.length→(rs l i).size≤maxLen
def Seen (l:List ByteArray) (i:Nat) (m:List (ByteArray×Bool)):Prop:=∀ s,mget s false m=true↔∃ j:Nat,j<i∧rs l j=s
theorem Seen.next {l:List ByteArray} {i:Nat} {m:List (ByteArray×Bool)} (h:Seen l i m):Seen l (i+1) (mset (rs l i) true m):=fun s=>by
 rw [mget_mset]
 constructor
 ·intro hh
  by_cases e:rs l i=s
  ·exact ⟨i,by omega,e⟩
  ·rw [if_neg e] at hh
   obtain ⟨j,hj,e2⟩:=(h s).1 hh
   exact ⟨j,by omega,e2⟩
 ·rintro ⟨j,hj,e⟩
  by_cases e2:rs l i=s
  ·rw [if_pos e2]
  ·rw [if_neg e2]
   refine (h s).2 ⟨j,?_,e⟩
   by_cases e3:j=i
   ·subst e3;exact absurd e e2
   ·omega
theorem Refs1.next {k:Int} {l:List ByteArray} {i:Nat} (h:Refs1 k l i) (h1:NameOk (rs l i)) (h2:k=2→∀ j,i=j+1→rs l j≠rs l i) (h3:k=3→∀ j,j<i→rs l j≠rs l i):Refs1 k l (i+1):=by
 refine ⟨fun j hj=>?_,fun hk j hj=>?_,fun hk a b hab hb=>?_⟩
 ·by_cases e:j=i
  ·subst e;exact h1
  ·exact h.name j (by omega)
 ·by_cases e:j+1=i
  ·rw [e];exact h2 hk j e.symm
  ·exact h.way hk j (by omega)
 ·by_cases e:b=i
  ·subst e;exact h3 hk a hab
  ·exact h.area hk a b hab (by omega)
theorem ref11_refs_b {o:Object} (hl:o.Refs.length≤maxLen) (hf:refsFit o.Refs) (hk:KindOk o.Kind) {Q:Bool→Prop} (h:∀ b,(b=true↔Refs1 o.Kind o.Refs o.Refs.length∧CountOk o.Kind o.Refs.length)→Q b):ref11_refs.F o Q:=by
 rw [maxLen_val] at hl
 refine W.dec_i (fun hlt=>h false (by simp only [Bool.false_eq_true,false_iff];rintro ⟨_,h2,_⟩;omega)) (fun hge=>?_)
 refine W.up2 o.Refs.length (fun i m=>Refs1 o.Kind o.Refs i∧Seen o.Refs i m) ⟨⟨fun i hi=>by omega,fun _ i hi=>by omega,fun _ i j _ hj=>by omega⟩,fun s=>by simp [mget]⟩ (fun K i m hi hI hK=>?_)
 obtain ⟨g1,g2⟩:=hI
 have hm:∀ (h:0<(i:Int)),w64 ((i:Int)-(1:Int))=((i-1:Nat):Int):=fun h=>by rw [w64_id (by omega) (by omega)];omega
 refine W.dec_i (fun hlt=>W.req_i ⟨by omega,hlt⟩ ?_) (fun hge2=>?_)
 ·have hi2:i<o.Refs.length:=by omega
  refine ref08_Name_b (hf i hi2) fun b hb=>W.req_i (fun hh=>by
   simp only [Bool.and_eq_true,decide_eq_true_eq] at hh
   rw [hm hh.2.2];omega) (W.req_i (fun _=>⟨by omega,by omega⟩) (W.req_i (fun _=>⟨by omega,by omega⟩) ?_))
  refine W.ite_i (fun hw=>?_) (fun hw=>?_)
  ·refine h false ?_
   simp only [Bool.false_eq_true,false_iff]
   rintro ⟨hr,_⟩
   simp only [Bool.or_eq_true,decide_eq_true_eq,Bool.not_eq_true',Bool.and_eq_true,beq_iff_eq,sEq_eq] at hw
   rcases hw with (hw | ⟨⟨hw1,hw2⟩,hw⟩) | ⟨hw1,hw⟩
   ·have:=hb.2 (hr.name i hi2);rw [this] at hw;cases hw
   ·rw [hm hw2] at hw
    have:=hr.way hw1 (i-1) (by omega)
    rw [show i-1+1=i by omega] at this
    exact this hw
   ·obtain ⟨j,hj,e⟩:=(g2 _).1 hw
    exact hr.area hw1 j i hj hi2 e
  ·refine W.req_i ⟨by omega,by omega⟩ ?_
   rw [w64_succ (by omega)]
   simp only [Bool.or_eq_false_iff,decide_eq_false_iff_not,Bool.not_eq_false',Bool.and_eq_false_iff,beq_eq_false_iff_ne,ne_eq,sEq_false] at hw
   obtain ⟨⟨hw1,hw2⟩,hw3⟩:=hw
   refine hK hi2 _ ⟨g1.next (hb.1 hw1) (fun hk2 j e=>?_) (fun hk3 j hj e=>?_),g2.next⟩
   ·rcases hw2 with (hw2 | hw2) | hw2
    ·exact absurd hk2 hw2
    ·omega
    ·rw [hm (by omega),show i-1=j by omega] at hw2;exact hw2
   ·rcases hw3 with hw3 | hw3
    ·exact hw3 hk3
    ·have:=(g2 (rs o.Refs i)).2 ⟨j,hj,e⟩
     rw [this] at hw3;cases hw3
 ·have hie:i=o.Refs.length:=by omega
  subst hie
  have key:∀ b:Bool,(b=true↔CountOk o.Kind o.Refs.length)→Q b:=fun b hb=>h b (by rw [hb];exact ⟨fun x=>⟨g1,x⟩,fun x=>x.2⟩)
  unfold KindOk at hk
  refine W.ite_i (fun e=>key _ ?_) (fun e1=>W.ite_i (fun e=>key _ ?_) (fun e2=>W.ite_i (fun e=>key _ ?_) (fun e3=>W.ite_i (fun e=>key _ ?_) (fun e4=>key _ ?_))))<;>simp only [beq_iff_eq,beq_eq_false_iff_ne,ne_eq,decide_eq_true_eq] at *<;>unfold CountOk<;>omega
theorem object_Valid_1_b {s:ByteArray} {o:Object} {last:ByteArray} {m:List (ByteArray×Bool)} (hs:s.size≤maxLen) {Q:Bool×ByteArray×List (ByteArray×Bool)→Prop} (h:∀ b,(b=true↔(o.Kind=2∧s=last)∨(o.Kind=3∧mget s false m=true)∨¬ NameOk s)→Q (b,s,mset s true m)):object_Valid_1__b_b_b.F s o last m Q:=by
 refine W.ite_i (fun hw=>lexer_Name_b hs fun b hb=>h _ ?_) (fun hw=>h _ ?_)
 ·simp only [Bool.not_eq_true',Bool.or_eq_false_iff,Bool.and_eq_false_iff,beq_eq_false_iff_ne,ne_eq,sEq_false] at hw
  simp only [Bool.or_eq_true,Bool.and_eq_true,beq_iff_eq,sEq_eq,Bool.not_eq_true',or_assoc,← hb,Bool.not_eq_true]
 ·simp only [Bool.not_eq_false',Bool.or_eq_true,Bool.and_eq_true,beq_iff_eq,sEq_eq] at hw
  simp only [Bool.or_eq_true,Bool.and_eq_true,beq_iff_eq,sEq_eq,Bool.not_eq_true',or_assoc]
  constructor
  ·rintro (h | h | h)
   ·exact .inl h
   ·exact .inr (.inl h)
   ·rcases hw with hw | hw
    ·exact .inl hw
    ·exact .inr (.inl hw)
  ·rintro (h | h | h)
   ·exact .inl h
   ·exact .inr (.inl h)
   ·rcases hw with hw | hw
    ·exact .inl hw
    ·exact .inr (.inl hw)
theorem object_refs_b {o:Object} (hl:o.Refs.length≤maxLen) (hf:refsFit o.Refs) {Q:Bool×ByteArray×List (ByteArray×Bool)→Prop} (h:∀ r,(r.1=true↔¬ Refs1 o.Kind o.Refs o.Refs.length)→Q r):Jg.F o.Refs o (⟨#[]⟩:ByteArray) ([]:(List (ByteArray×Bool))) Q:=by
 rw [maxLen_val] at hl
 show (vu.F o.Refs o (⟨#[]⟩:ByteArray) ([]:(List (ByteArray×Bool)))) (fun r1=>Q ((decide ((0:Int)≤r1.1)),r1.2.1,r1.2.2))
 refine W.up3 o.Refs.length (fun i last m=>Refs1 o.Kind o.Refs i∧Seen o.Refs i m∧(i=0→last=⟨#[]⟩)∧(∀ j,i=j+1→last=rs o.Refs j)) ⟨⟨fun i hi=>by omega,fun _ i hi=>by omega,fun _ i j _ hj=>by omega⟩,fun s=>by simp [mget],fun _=>rfl,fun j hj=>by omega⟩ (fun K i last m hi hI hK=>?_)
 obtain ⟨g1,g2,g3,g4⟩:=hI
 refine W.dec_i (fun hlt=>W.req_i ⟨by omega,hlt⟩ ?_) (fun hge=>?_)
 ·have hi2:i<o.Refs.length:=by omega
  refine object_Valid_1_b (hf i hi2) fun b hb=>W.ite_i (fun hw=>?_) (fun hw=>?_)
  ·refine h _ (iff_of_true (by simp) fun hr=>?_)
   rcases hb.1 hw with ⟨hk,e⟩ | ⟨hk,e⟩ | e
   ·by_cases e0:i=0
    ·have:=(hr.name i hi2).ne
     exact this (e.trans (g3 e0))
    ·obtain ⟨j,rfl⟩:∃ j,i=j+1:=⟨i-1,by omega⟩
     exact hr.way hk j hi2 ((e.trans (g4 j rfl)).symm)
   ·obtain ⟨j,hj,e2⟩:=(g2 _).1 e
    exact hr.area hk j i hj hi2 e2
   ·exact e (hr.name i hi2)
  ·have hw':¬ (o.Kind=2∧rs o.Refs i=last∨o.Kind=3∧mget (rs o.Refs i) false m=true∨¬ NameOk (rs o.Refs i)):=fun hh=>by have:=hb.2 hh;rw [this] at hw;cases hw
   rw [w64_succ (by omega)]
   refine hK hi2 _ _ ⟨g1.next (Classical.byContradiction fun hh=>hw' (.inr (.inr hh))) (fun hk j e e2=>hw' (.inl ⟨hk,?_⟩)) (fun hk j hj e=>hw' (.inr (.inl ⟨hk,(g2 _).2 ⟨j,hj,e⟩⟩))),g2.next,fun e=>by omega,fun j e=>?_⟩
   ·rw [g4 j e];exact e2.symm
   ·have:j=i:=by omega
    subst this;rfl
 ·have hie:i=o.Refs.length:=by omega
  subst hie
  exact h _ (iff_of_false (by simp) (fun hh=>hh g1))
def AtOk (k:Int) (p:Point):Prop:=(k=1→0≤p.X∧p.X<1048576∧0≤p.Y∧p.Y<1048576)∧(k≠1→p.X=0∧p.Y=0)
structure ObjOk (o:Object):Prop where
 kind:KindOk o.Kind
 name:NameOk o.Id
 tags:TagsOk o.Tags
 refs:Refs1 o.Kind o.Refs o.Refs.length
 count:CountOk o.Kind o.Refs.length
 at_:AtOk o.Kind o.At
structure ObjFit (o:Object):Prop where
 id:o.Id.size≤maxLen
 refs:o.Refs.length≤maxLen
 each:refsFit o.Refs
 tags:o.Tags.length≤maxLen
 keys:keysFit o.Tags
theorem eq_zero_iff {p:Point}:eq_Point p (⟨(0:Int),(0:Int)⟩:Point)=true↔p.X=0∧p.Y=0:=by
 simp [eq_Point]
theorem object_Valid_b {o:Object} (hf:ObjFit o) {Q:Bool→Prop} (h:∀ b,(b=true↔ObjOk o)→Q b):object_Valid.F o Q:=by
 refine object_word_b fun r hr=>?_
 cases e1:sEq r ⟨#[]⟩ with
 | true=>
  have hk:¬ ObjOk o:=fun ho=>hr.1 e1 ho.kind
  refine W.ite_i (fun hh=>by rw [e1] at hh;cases hh) (fun _=>W.ite_i (fun hh=>by rw [e1] at hh;cases hh) (fun _=>W.ite_i (fun hh=>by rw [e1] at hh;cases hh) (fun _=>W.ite_i (fun _=>h _ (iff_of_false (by simp) hk)) (fun hh=>by rw [e1] at hh;cases hh))))
 | false=>
  have hk:KindOk o.Kind:=Classical.byContradiction fun hn=>by rw [hr.2 hn] at e1;cases e1
  refine W.ite_i (fun _=>?_) (fun hh=>by rw [e1] at hh;cases hh)
  refine lexer_Name_b hf.id fun b2 h2=>?_
  cases b2 with
  | false=>
   have hn:¬ ObjOk o:=fun ho=>by have:=h2.2 ho.name;cases this
   refine W.ite_i (fun hh=>by rw [e1] at hh;cases hh) (fun _=>W.ite_i (fun hh=>by rw [e1] at hh;cases hh) (fun _=>W.ite_i (fun _=>h _ (iff_of_false (by simp) hn)) (fun hh=>by rw [e1] at hh;cases hh)))
  | true=>
   refine W.ite_i (fun _=>?_) (fun hh=>by rw [e1] at hh;cases hh)
   refine tag_Valid_b hf.tags hf.keys fun b3 h3=>?_
   cases b3 with
   | false=>
    have hn:¬ ObjOk o:=fun ho=>by have:=h3.2 ho.tags;cases this
    refine W.ite_i (fun hh=>by rw [e1] at hh;cases hh) (fun _=>W.ite_i (fun _=>h _ (iff_of_false (by simp) hn)) (fun hh=>by rw [e1] at hh;cases hh))
   | true=>
    refine W.ite_i (fun _=>?_) (fun hh=>by rw [e1] at hh;cases hh)
    unfold KindOk at hk
    refine W.req_i (by omega) ?_
    have hleast:∃ n:Int,aget_178 ((0:Int),(0:Int),(2:Int),(3:Int),(1:Int),(3:Int)) o.Kind=n∧(o.Kind=1∧n=0∨o.Kind=2∧n=2∨o.Kind=3∧n=3∨o.Kind=4∧n=1∨o.Kind=5∧n=3):=by
     have:o.Kind=1∨o.Kind=2∨o.Kind=3∨o.Kind=4∨o.Kind=5:=by omega
     rcases this with e | e | e | e | e<;>rw [e]<;>exact ⟨_,rfl,by simp [aget_178]⟩
    obtain ⟨n,hn,hnk⟩:=hleast
    show W.ite _ _ _ Q
    rw [show aget_178 ((0:Int),(0:Int),(2:Int),(3:Int),(1:Int),(3:Int)) o.Kind=n from hn]
    refine W.ite_i (fun hh=>h _ (iff_of_false (by simp) fun ho=>?_)) (fun hh=>?_)
    ·have hc:=ho.count
     unfold CountOk at hc
     simp only [e1,Bool.not_true,Bool.false_or,Bool.or_eq_true,decide_eq_true_eq] at hh
     omega
    ·simp only [e1,Bool.not_true,Bool.false_or,Bool.or_eq_false_iff,decide_eq_false_iff_not] at hh
     refine object_refs_b hf.refs hf.each fun q hq=>W.ite_i (fun hw=>h _ (iff_of_false (by simp) fun ho=>hq.1 hw ho.refs)) (fun hw=>?_)
     have hrefs:Refs1 o.Kind o.Refs o.Refs.length:=Classical.byContradiction fun hn=>by rw [hq.2 hn] at hw;cases hw
     have fin:∀ b:Bool,(b=true↔CountOk o.Kind o.Refs.length∧AtOk o.Kind o.At)→Q b:=fun b hb=>h b (by
      rw [hb]
      exact ⟨fun ⟨x,y⟩=>⟨hk,h2.1 rfl,h3.1 rfl,hrefs,x,y⟩,fun ho=>⟨ho.count,ho.at_⟩⟩)
     refine W.ite_i (fun hk1=>?_) (fun hk1=>?_)
     ·have hk1':o.Kind=1:=by simpa using hk1
      refine W.ite_i (fun hz=>fin _ ?_) (fun hz=>fin _ ?_)
      ·simp only [beq_iff_eq] at hz
       simp only [Bool.and_eq_true,decide_eq_true_eq,beq_iff_eq]
       unfold CountOk AtOk
       omega
      ·simp only [beq_eq_false_iff_ne,ne_eq] at hz
       simp only [Bool.and_false,Bool.false_eq_true,false_iff]
       unfold CountOk
       omega
     ·have hk1':o.Kind≠1:=by simpa using hk1
      refine W.ite_i (fun hk5=>fin _ ?_) (fun hk5=>fin _ ?_)
      ·have hk5':o.Kind=5:=by simpa using hk5
       simp only [Bool.and_eq_true,beq_iff_eq,eq_zero_iff]
       unfold CountOk AtOk
       omega
      ·have hk5':o.Kind≠5:=by simpa using hk5
       rw [eq_zero_iff]
       unfold CountOk AtOk
       omega
theorem ref11_Valid_b {o:Object} (hf:ObjFit o) {Q:Bool→Prop} (h:∀ b,(b=true↔ObjOk o)→Q b):ref11_Valid.F o Q:=by
 have key:∀ at1:Bool,(at1=true↔AtOk o.Kind o.At)→ref11_Valid.c1 o at1 Q:=by
  intro at1 hat
  refine ref08_Name_b hf.id fun b2 h2=>?_
  cases b2 with
  | false=>
   have hn:¬ ObjOk o:=fun ho=>by have:=h2.2 ho.name;cases this
   exact h _ (iff_of_false (by simp) hn)
  | true=>
   refine W.ite_i (fun _=>?_) (fun hh=>by cases hh)
   refine ref11_Word_b fun r hr=>?_
   cases e1:sEq r ⟨#[]⟩ with
   | true=>
    have hk:¬ ObjOk o:=fun ho=>hr.1 e1 ho.kind
    refine W.ite_i (fun hh=>by rw [e1] at hh;cases hh) (fun _=>W.ite_i (fun hh=>by rw [e1] at hh;cases hh) (fun _=>?_))
    show Q ((((true&&(!(sEq r (⟨#[]⟩:ByteArray))))&&at1)&&false)&&false)
    exact h _ (iff_of_false (by simp) hk)
   | false=>
    have hk:KindOk o.Kind:=Classical.byContradiction fun hn=>by rw [hr.2 hn] at e1;cases e1
    cases at1 with
    | false=>
     have hn:¬ ObjOk o:=fun ho=>by have:=hat.2 ho.at_;cases this
     refine W.ite_i (fun hh=>by rw [e1] at hh;cases hh) (fun _=>W.ite_i (fun hh=>by rw [e1] at hh;cases hh) (fun _=>?_))
     exact h _ (iff_of_false (by simp) hn)
    | true=>
     refine W.ite_i (fun _=>?_) (fun hh=>by rw [e1] at hh;cases hh)
     refine ref11_Tags_b hf.tags hf.keys fun b3 h3=>?_
     cases b3 with
     | false=>
      have hn:¬ ObjOk o:=fun ho=>by have:=h3.2 ho.tags;cases this
      refine W.ite_i (fun hh=>by rw [e1] at hh;cases hh) (fun _=>?_)
      exact h _ (iff_of_false (by simp) hn)
     | true=>
      refine W.ite_i (fun _=>?_) (fun hh=>by rw [e1] at hh;cases hh)
      refine ref11_refs_b hf.refs hf.each hk fun b4 h4=>?_
      show Q ((((true&&(!(sEq r (⟨#[]⟩:ByteArray))))&&true)&&true)&&b4)
      rw [e1]
      refine h _ ?_
      simp only [Bool.not_false,Bool.and_self,Bool.true_and,h4]
      exact ⟨fun ⟨x,y⟩=>⟨hk,h2.1 rfl,h3.1 rfl,x,y,hat.1 rfl⟩,fun ho=>⟨ho.refs,ho.count⟩⟩
 refine W.ite_i (fun hk=>key _ ?_) (fun hk=>key _ ?_)
 ·simp only [bne_iff_ne,ne_eq] at hk
  rw [eq_zero_iff];unfold AtOk;omega
 ·simp only [bne_eq_false_iff_eq] at hk
  simp only [Bool.and_eq_true,decide_eq_true_eq]
  unfold AtOk;omega
abbrev ob (m:Map) (i:Nat):Object:=rd zObject m.Objects (i:Int)
structure MapOk (m:Map):Prop where
 few:m.Objects.length≤1000000
 each:∀ i:Nat,i<m.Objects.length→ObjOk (ob m i)
 rise:∀ i:Nat,i+1<m.Objects.length→sLt (ob m i).Id (ob m (i+1)).Id=true
structure MapFit (m:Map):Prop where
 len:m.Objects.length≤maxLen
 each:∀ i:Nat,i<m.Objects.length→ObjFit (ob m i)
theorem atlas_Valid_b {m:Map} (hf:MapFit m) {Q:Bool→Prop} (h:∀ b,(b=true↔MapOk m)→Q b):atlas_Valid.F m Q:=by
 have hl:=hf.len
 rw [maxLen_val] at hl
 refine W.up2 m.Objects.length (fun i last=>(∀ j:Nat,j<i→ObjOk (ob m j))∧(∀ j:Nat,j+1<i→sLt (ob m j).Id (ob m (j+1)).Id=true)∧(i=0→last=⟨#[]⟩)∧(∀ j,i=j+1→last=(ob m j).Id)) ⟨fun j h=>by omega,fun j h=>by omega,fun _=>rfl,fun j h=>by omega⟩ (fun K i last hi hI hK=>?_)
 obtain ⟨g1,g2,g3,g4⟩:=hI
 refine W.dec_i (fun hlt=>W.req_i ⟨by omega,hlt⟩ ?_) (fun hge=>?_)
 ·have hi2:i<m.Objects.length:=by omega
  refine object_Valid_b (hf.each i hi2) fun b hb=>?_
  refine W.ite_i (fun hw=>h _ (iff_of_false (by simp) fun hn=>?_)) (fun hw=>?_)
  ·have he:=hn.each i hi2
   rw [sLe_eq] at hw
   simp only [Bool.or_eq_true,Bool.not_eq_true'] at hw
   rcases hw with hw | hw
   ·have:=hb.2 he;rw [this] at hw;cases hw
   ·by_cases e:i=0
    ·rw [g3 e,sLt_empty he.name.ne] at hw;cases hw
    ·obtain ⟨j,rfl⟩:∃ j,i=j+1:=⟨i-1,by omega⟩
     rw [g4 j rfl] at hw
     have:=hn.rise j hi2
     rw [this] at hw;cases hw
  ·rw [w64_succ (by omega)]
   rw [sLe_eq] at hw
   simp only [Bool.or_eq_false_iff,Bool.not_eq_false'] at hw
   obtain ⟨hw1,hw2⟩:=hw
   refine hK hi2 _ ⟨fun j hj=>?_,fun j hj=>?_,fun e=>by omega,fun j e=>?_⟩
   ·by_cases e:j=i
    ·subst e;exact hb.1 hw1
    ·exact g1 j (by omega)
   ·by_cases e:j+1=i
    ·subst e;rw [← g4 j rfl];exact hw2
    ·exact g2 j (by omega)
   ·have:j=i:=by omega
    subst this;rfl
 ·have hie:i=m.Objects.length:=by omega
  subst hie
  show Q (decide ((m.Objects.length:Int)≤(1000000:Int)))
  refine h _ ?_
  simp only [decide_eq_true_eq]
  exact ⟨fun x=>⟨by omega,g1,g2⟩,fun x=>by have:=x.few;omega⟩
theorem ref13_Valid_b {m:Map} (hf:MapFit m) {Q:Bool→Prop} (h:∀ b,(b=true↔MapOk m)→Q b):ref13_Valid.F m Q:=by
 have hl:=hf.len
 rw [maxLen_val] at hl
 refine W.dec_i (fun hlt=>h _ (iff_of_false (by simp) fun hn=>by have:=hn.few;omega)) (fun hge=>?_)
 refine W.up1 m.Objects.length (fun i=>(∀ j:Nat,j<i→ObjOk (ob m j))∧(∀ j:Nat,j+1<i→sLt (ob m j).Id (ob m (j+1)).Id=true)) ⟨fun j h=>by omega,fun j h=>by omega⟩ (fun K i hi hI hK=>?_)
 obtain ⟨g1,g2⟩:=hI
 have hm:∀ (h:0<(i:Int)),w64 ((i:Int)-(1:Int))=((i-1:Nat):Int):=fun h=>by rw [w64_id (by omega) (by omega)];omega
 refine W.dec_i (fun hlt=>W.req_i ⟨by omega,hlt⟩ ?_) (fun hge2=>?_)
 ·have hi2:i<m.Objects.length:=by omega
  refine ref11_Valid_b (hf.each i hi2) fun b hb=>W.req_i (fun hh=>by
   simp only [Bool.and_eq_true,decide_eq_true_eq] at hh
   rw [hm hh.2];omega) (W.req_i (fun _=>⟨by omega,by omega⟩) ?_)
  refine W.ite_i (fun hw=>h _ (iff_of_false (by simp) fun hn=>?_)) (fun hw=>?_)
  ·simp only [Bool.or_eq_true,decide_eq_true_eq,Bool.not_eq_true',Bool.and_eq_true] at hw
   rcases hw with hw | ⟨hw1,hw⟩
   ·have:=hb.2 (hn.each i hi2);rw [this] at hw;cases hw
   ·rw [hm hw1] at hw
    have:=hn.rise (i-1) (by omega)
    rw [show i-1+1=i by omega] at this
    rw [this] at hw;cases hw
  ·rw [w64_succ (by omega)]
   simp only [Bool.or_eq_false_iff,decide_eq_false_iff_not,Bool.not_eq_false',Bool.and_eq_false_iff] at hw
   obtain ⟨hw1,hw2⟩:=hw
   refine hK hi2 ⟨fun j hj=>?_,fun j hj=>?_⟩
   ·by_cases e:j=i
    ·subst e;exact hb.1 hw1
    ·exact g1 j (by omega)
   ·by_cases e:j+1=i
    ·subst e
     rcases hw2 with hw2 | hw2
     ·omega
     ·rw [hm (by omega),show j+1-1=j by omega] at hw2;exact hw2
    ·exact g2 j (by omega)
 ·have hie:i=m.Objects.length:=by omega
  subst hie
  exact h _ (iff_of_true rfl ⟨by omega,g1,g2⟩)
abbrev Key:=ByteArray×ByteArray
abbrev kz:Key:=((⟨#[]⟩:ByteArray),(⟨#[]⟩:ByteArray))
def kLt (a b:Key):Prop:=sLt a.1 b.1=true∨a.1=b.1∧sLt a.2 b.2=true
theorem kLt.irr {a:Key} (h:kLt a a):False:=by
 rcases h with h | ⟨_,h⟩<;>rw [sLt_irr] at h<;>cases h
theorem kLt.trans {a b c:Key} (h:kLt a b) (k:kLt b c):kLt a c:=by
 rcases h with h | ⟨e,h⟩<;>rcases k with k | ⟨e2,k⟩
 ·exact .inl (sLt_trans h k)
 ·exact .inl (e2 ▸ h)
 ·exact .inl (e ▸ k)
 ·exact .inr ⟨e.trans e2,sLt_trans h k⟩
theorem kLt.tri (a b:Key):kLt a b∨a=b∨kLt b a:=by
 rcases sLt_tri a.1 b.1 with h | h | h
 ·exact .inl (.inl h)
 ·rcases sLt_tri a.2 b.2 with k | k | k
  ·exact .inl (.inr ⟨h,k⟩)
  ·exact .inr (.inl (Prod.ext h k))
  ·exact .inr (.inr (.inr ⟨h.symm,k⟩))
 ·exact .inr (.inr (.inl h))
theorem kLt.ne {a b:Key} (h:kLt a b):a≠b:=fun e=>by subst e;exact h.irr
theorem rise_unique {α:Type} {lt:α→α→Prop} (irr:∀ a,¬ lt a a) (tr:∀ a b c,lt a b→lt b c→lt a c):∀ {l l':List α},l.Pairwise lt→l'.Pairwise lt→(∀ s,s∈l↔s∈l')→l=l'
 | [],[],_,_,_=>rfl
 | [],b::l',_,_,h=>by have:=(h b).2 (by simp);cases this
 | a::l,[],_,_,h=>by have:=(h a).1 (by simp);cases this
 | a::l,b::l',h1,h2,h=>by
  rw [List.pairwise_cons] at h1 h2
  have e:a=b:=by
   rcases List.mem_cons.1 ((h a).1 (by simp)) with e | e
   ·exact e
   ·rcases List.mem_cons.1 ((h b).2 (by simp)) with e' | e'
    ·exact e'.symm
    ·exact absurd (tr _ _ _ (h1.1 b e') (h2.1 a e)) (irr _)
  subst e
  congr 1
  refine rise_unique irr tr h1.2 h2.2 fun s=>⟨fun hs=>?_,fun hs=>?_⟩
  ·rcases List.mem_cons.1 ((h s).1 (by simp [hs])) with e | e
   ·subst e;exact absurd (h1.1 s hs) (irr _)
   ·exact e
  ·rcases List.mem_cons.1 ((h s).2 (by simp [hs])) with e | e
   ·subst e;exact absurd (h2.1 s hs) (irr _)
   ·exact e
theorem MapOk.lt {m:Map} (h:MapOk m) {i:Nat}:∀ {j:Nat},i<j→j<m.Objects.length→sLt (ob m i).Id (ob m j).Id=true
 | 0,h1,_=>by omega
 | j+1,h1,h2=>by
  by_cases e:i=j
  ·subst e;exact h.rise i h2
  ·exact sLt_trans (h.lt (j:=j) (by omega) (by omega)) (h.rise j h2)
theorem MapOk.inj {m:Map} (h:MapOk m) {i j:Nat} (hi:i<m.Objects.length) (hj:j<m.Objects.length) (e:(ob m i).Id=(ob m j).Id):i=j:=by
 rcases Nat.lt_trichotomy i j with k | k | k
 ·exact absurd e (sLt_ne (h.lt k hj))
 ·exact k
 ·exact absurd e.symm (sLt_ne (h.lt k hi))
def Holds (m:Map) (id:ByteArray) (j:Nat):Prop:=j<m.Objects.length∧(ob m j).Id=id
def Nd (m:Map) (id:ByteArray):Prop:=∃ j:Nat,Holds m id j∧(ob m j).Kind=1
def SoundP (m:Map) (o:Object):Prop:=∀ i:Nat,i<o.Refs.length→Nd m (rs o.Refs i)
open Classical in
noncomputable def pos (m:Map) (id:ByteArray):Point:=if h:∃ j:Nat,Holds m id j then (ob m h.choose).At else zPoint
theorem pos_eq {m:Map} (h:MapOk m) {id:ByteArray} {j:Nat} (hj:Holds m id j):pos m id=(ob m j).At:=by
 have hx:∃ j:Nat,Holds m id j:=⟨j,hj⟩
 unfold pos
 rw [dif_pos hx]
 have:=hx.choose_spec
 rw [h.inj this.1 hj.1 (this.2.trans hj.2.symm)]
theorem ref13_Find_b {m:Map} (h:MapOk m) {id:ByteArray} {Q:Int→Prop} (hn:(¬ ∃ j:Nat,Holds m id j)→Q (-1)) (hy:∀ j:Nat,Holds m id j→Q (j:Int)):ref13_Find.F m id Q:=by
 have hl:=h.few
 refine W.loop2 (fun (f t:Int)=>∃ a b:Nat,f=(a:Int)∧t=(b:Int)∧a≤b∧b≤m.Objects.length∧(∀ j,j<a→sLt (ob m j).Id id=true)∧(∀ j,b≤j→j<m.Objects.length→sLt (ob m j).Id id=false)) (fun f t=>t.toNat-f.toNat) ?_ ⟨0,m.Objects.length,rfl,rfl,by omega,by omega,fun j h=>by omega,fun j h1 h2=>by omega⟩
 rintro K f t ⟨a,b,rfl,rfl,hab,hb,h1,h2⟩ hk
 refine W.dec_i (fun hlt=>?_) (fun hge=>?_)
 ·have e:w64 (Int.tdiv (w64 ((a:Int)+(b:Int))) 2)=(((a+b) / 2:Nat):Int):=by
   rw [w64_id (x:=(a:Int)+(b:Int)) (by omega) (by omega),show (a:Int)+(b:Int)=((a+b:Nat):Int) by omega,show ((2:Int))=((2:Nat):Int) from rfl,← Int.ofNat_tdiv]
   exact w64_id (by omega) (by omega)
  have hc:(a+b) / 2<m.Objects.length:=by omega
  generalize hcc:(a+b) / 2=c at *
  rw [e]
  refine W.req_i ⟨by omega,by omega⟩ (W.ite_i (fun hs=>?_) (fun hs=>?_))
  ·rw [w64_succ (by omega)]
   refine hk _ _ ⟨c+1,b,rfl,rfl,by omega,hb,fun j hj=>?_,h2⟩ (by omega)
   by_cases e2:j=c
   ·subst e2;exact hs
   ·exact sLt_trans (h.lt (show j<c by omega) hc) hs
  ·refine hk _ _ ⟨a,c,rfl,rfl,by omega,by omega,h1,fun j hj1 hj2=>?_⟩ (by omega)
   by_cases e2:j=c
   ·subst e2;exact hs
   ·cases hq:sLt (ob m j).Id id with
    | false=>rfl
    | true=>rw [sLt_trans (h.lt (show c<j by omega) hj2) hq] at hs;cases hs
 ·have hab':a=b:=by omega
  subst hab'
  refine W.req_i (fun hd=>⟨by omega,by simpa using hd⟩) (W.ite_i (fun hd=>?_) (fun hd=>?_))
  ·simp only [Bool.and_eq_true,decide_eq_true_eq,sEq_eq] at hd
   exact hy a ⟨by omega,hd.2⟩
  ·refine hn ?_
   rintro ⟨j,hj,e⟩
   rcases Nat.lt_trichotomy j a with k | k | k
   ·have:=h1 j k;rw [e,sLt_irr] at this;cases this
   ·subst k
    rw [Bool.and_eq_false_iff] at hd
    rcases hd with hd | hd
    ·rw [decide_eq_false_iff_not] at hd;omega
    ·rw [sEq_false] at hd;exact hd e
   ·have:=h2 a (by omega) (by omega)
    have:=h.lt k hj
    rw [e] at this
    rw [h2 a (by omega) (by omega)] at this;cases this
theorem ref13_Sound_b {m:Map} (h:MapOk m) {o:Object} (ho:o.Kind=2∨o.Kind=3) (hr:o.Refs.length≤2000) {Q:Bool→Prop} (hq:∀ b,(b=true↔SoundP m o)→Q b):ref13_Sound.F m o Q:=by
 refine ⟨2,?_⟩
 refine W.up1 (B:=ref13_Sound.l1 (ref13_Sound.Fn 1) m o ref13_Sound.c1) o.Refs.length (fun i=>∀ k,k<i→Nd m (rs o.Refs k)) (fun k hk=>by omega) (fun K i hi hI hk=>?_)
 refine W.dec_i (fun hlt=>W.req_i ⟨by omega,hlt⟩ (W.bind_i ?_)) (fun hge=>hq true (iff_of_true rfl fun k hk=>hI k (by omega)))
 have hi':i<o.Refs.length:=by omega
 refine ref13_Find_b h (fun hno=>?_) (fun j hj=>?_)
 ·refine W.req_i (fun k=>by simp at k) (W.bind_i (W.req_i (fun k=>by simp at k) (W.bind_i ?_)))
  refine hq false (iff_of_false (by simp) fun hs=>hno ?_)
  obtain ⟨j,hj,_⟩:=hs i hi'
  exact ⟨j,hj⟩
 ·have hj0:¬ ((j:Int)<0):=by omega
  refine W.req_i (fun _=>⟨by omega,by have:=hj.1;omega⟩) (W.bind_i ?_)
  rw [decide_eq_false hj0]
  have ek:((o.Kind==(4:Int))||((o.Kind==(5:Int))&&((i:Int) != (1:Int))))=false:=by
   rcases ho with e | e<;>rw [e]<;>rfl
  show ref13_kind.F o (i:Int) _
  unfold ref13_kind.F
  rw [ek]
  refine W.req_i (fun _=>⟨by omega,by have:=hj.1;omega⟩) (W.bind_i ?_)
  rw [Bool.false_or]
  by_cases hk1:(ob m j).Kind=1
  ·rw [show ((rd zObject m.Objects (j:Int)).Kind != (1:Int))=false by simpa [ob] using hk1]
   have h0:(ob m j).Refs.length=0:=(h.each j hj.1).count.2.1 hk1
   refine ⟨1,?_⟩
   refine W.dec_i (fun k=>by rw [show (rd zObject m.Objects (j:Int))=ob m j from rfl,h0] at k;omega) (fun _=>?_)
   show K (w64 ((i:Int)+1)) Q
   rw [w64_succ (by omega)]
   refine hk hi' fun k hk2=>?_
   by_cases e:k=i
   ·subst e;exact ⟨j,hj,hk1⟩
   ·exact hI k (by omega)
  ·rw [show ((rd zObject m.Objects (j:Int)).Kind != (1:Int))=true by simpa [ob] using hk1]
   refine hq false (iff_of_false (by simp) fun hs=>?_)
   obtain ⟨j',hj',h1'⟩:=hs i hi'
   rw [h.inj hj.1 hj'.1 (hj.2.trans hj'.2.symm)] at hk1
   exact hk1 h1'
def nxt (l:List ByteArray) (i:Nat):ByteArray:=if i+1<l.length then rs l (i+1) else rs l 0
def key (a b:ByteArray):Key:=(sMin a b,sMax a b)
def sidesN (o:Object):Nat:=if o.Kind=3 then o.Refs.length else o.Refs.length-1
def sides (o:Object):List Key:=if o.Kind=2∨o.Kind=3 then (List.range (sidesN o)).map fun i=>key (rs o.Refs i) (nxt o.Refs i) else []
theorem sides_len {o:Object}:(sides o).length≤o.Refs.length:=by
 unfold sides sidesN
 split
 ·rw [List.length_map,List.length_range];split<;>omega
 ·simp
theorem set_mid {α:Type} (A:List α) (b c:α) (B:List α) {n:Nat} (h:n=A.length):(A++b::B).set n c=A++c::B:=by
 subst h
 simp
theorem ref13_Sides_b {o:Object} (hr:o.Refs.length≤2000) (h3:o.Kind=3→1≤o.Refs.length) {Q:List Key→Prop} (hq:Q (sides o)):ref13_Sides.F o Q:=by
 unfold sides sidesN at hq
 by_cases hk:o.Kind=2∨o.Kind=3
 ·rw [if_pos hk] at hq
  refine W.ite_i (fun k=>by rw [Bool.and_eq_true,bne_iff_ne,bne_iff_ne] at k;omega) (fun _=>?_)
  let raw:Nat→Key:=fun i=>(rs o.Refs i,nxt o.Refs i)
  have c2:∀ n:Nat,n≤2000→Q ((List.range n).map fun i=>key (rs o.Refs i) (nxt o.Refs i))→ref13_Sides.c2 ((List.range n).map raw) Q:=fun n hn2 hq=>by
   refine W.up2 n (fun i x=>∃ B,(List.range n).map raw=(List.range i).map raw++B∧x=((List.range i).map fun i=>key (rs o.Refs i) (nxt o.Refs i))++B) ⟨_,rfl,rfl⟩ (fun K i x hi hI hK=>?_)
   obtain ⟨B,hB,rfl⟩:=hI
   have hBl:B.length=n-i:=by
    have:=congrArg List.length hB
    simp at this;omega
   refine W.dec_i (fun hlt=>?_) (fun hge=>?_)
   ·have hi':i<n:=by simp at hlt;omega
    match B,hBl with
    | [],e=>simp at e;omega
    | b::B,e=>
     have hb:b=raw i:=by
      have:=congrArg (fun l=>l[i]?) hB
      simp [List.getElem?_append,hi'] at this
      exact this.symm
     refine W.req_i ⟨by omega,hlt⟩ ?_
     rw [w64_succ (by omega)]
     refine hK hi' _ ⟨B,?_,?_⟩
     ·rw [hB,List.range_succ,List.map_append,hb];simp
     ·have hr:rd ((⟨#[]⟩:ByteArray),(⟨#[]⟩:ByteArray)) (((List.range i).map fun i=>key (rs o.Refs i) (nxt o.Refs i))++b::B) (i:Int)=raw i:=by
       unfold rd
       rw [show ((i:Nat):Int).toNat=i by omega,List.getD_eq_getElem?_getD,List.getElem?_append_right (by simp)]
       simp [hb]
      rw [hr,show ((i:Nat):Int).toNat=i by omega,set_mid _ _ _ _ (by simp),List.range_succ,List.map_append]
      simp [raw,key]
   ·have:i=n:=by simp at hge;omega
    subst this
    have:B=[]:=by cases B with
     | nil=>rfl
     | cons=>simp at hBl
    subst this
    rw [List.append_nil]
    exact hq
  refine W.up2 (o.Refs.length-1) (fun i x=>x=(List.range i).map raw) rfl (fun K i x hi hI hK=>?_)
  subst hI
  unfold ref13_Sides.l2
  rw [show (w64 ((i:Int)+1))=((i+1:Nat):Int) from w64_succ (by omega)]
  refine W.dec_i (fun hlt=>?_) (fun hge=>?_)
  ·have hn:nxt o.Refs i=rs o.Refs (i+1):=if_pos (by omega)
   refine W.req_i ⟨by omega,by omega⟩ (W.req_i ⟨by omega,by omega⟩ (W.req_i ?_ ?_))
   ·simp;omega
   ·refine hK (by omega) _ ?_
    rw [List.range_succ,List.map_append]
    simp only [raw,hn,List.map_cons,List.map_nil]
  ·refine W.ite_i (fun k3=>?_) (fun k3=>?_)
   ·rw [beq_iff_eq] at k3
    have h1:=h3 k3
    rw [if_pos k3] at hq
    have e:w64 ((o.Refs.length:Int)-1)=((o.Refs.length-1:Nat):Int):=by
     rw [w64_id (by omega) (by omega)];omega
    have ei:i=o.Refs.length-1:=by omega
    rw [e,← ei]
    refine W.req_i ⟨by omega,by omega⟩ (W.req_i ⟨by omega,by omega⟩ (W.req_i ?_ ?_))
    ·simp;omega
    ·have hn:nxt o.Refs i=rs o.Refs 0:=if_neg (by omega)
     have:=c2 (i+1) (by omega) (by rw [show i+1=o.Refs.length by omega];exact hq)
     rw [List.range_succ,List.map_append] at this
     simp only [raw,hn,List.map_cons,List.map_nil] at this
     exact this
   ·rw [beq_eq_false_iff_ne] at k3
    rw [if_neg k3] at hq
    have ei:i=o.Refs.length-1:=by omega
    exact c2 i (by omega) (by rw [ei];exact hq)
 ·rw [if_neg hk] at hq
  refine W.ite_i (fun _=>hq) (fun k=>?_)
  rw [Bool.and_eq_false_iff,bne_eq_false_iff_eq,bne_eq_false_iff_eq] at k
  exact absurd k hk
end Go.Gp.Gb
end
