import Derived.Test.YtpnpkigicnmopaaGreatDoorL9E
import Derived.RangeFuncLeaves
import Derived.RangeFuncNested
import Derived.Maps.AppendAt
import Derived.TacticsIn
import Derived.Laws.CopyRow
import Derived.Deep.OwnRows
import Derived.Maps.RangeRun
import Derived.Test.YtpnpkigicnmopaaGreatDoorProg
import Derived.KernelRfl
import Derived.Carry
import Derived.ChangeArms
import Derived.ChangeOld
import Derived.DataElems
import Derived.DataReads
import Derived.RowKit
import Derived.ChangeSame
import Derived.Laws.StructEq
import Derived.Lib.SliceRun
import Derived.Ground.NamesProg
import Derived.Shelf.Sort.Plain
import Derived.Lib.AppendStr
import Derived.Laws.Append
import Derived.Laws.IdiomStrings
import Derived.Ground.SlsfProg
import Derived.Shelf.SlSortCmp.Whole1
import Derived.Shelf.SlSortCmp.NoneTotal
import Derived.Test.YtpnpkigicnmopaaGreatDoorTie
import Derived.Test.YtpnpkigicnmopaaGreatDoorCards
import Derived.ProofKit
import Derived.LaidMore
import Derived.OpenShut
import Derived.Stop.Joined
import Derived.SevenTiedAt
/- The law DenialLowers holds: for every input that its row lets in, the call returns true and each argument reads as before. The row lists three package-level tables, which the card ties to the program's text. -/
set_option linter.unusedVariables false
set_option linter.unusedSimpArgs false
set_option linter.unnecessarySimpa false
set_option linter.all false
namespace Go.Proofs.T1
open Go.Vc
theorem lower_lower (r : Rl) : ∀ d ∈ lower r, lower d = [d] := by
  intro d hd
  unfold lower at hd
  split at hd
  · simp at hd; subst hd; rename_i h; simp [lower, h]
  · split at hd
    · simp at hd
    · simp at hd; subst hd; simp [lower]
theorem denials_low (R : List Rl) : denials (R.flatMap lower) = denials R := by
  unfold denials
  rw [List.flatMap_assoc]
  refine congrArg List.flatten ?_
  refine List.map_congr_left fun r _ => ?_
  have : ∀ l : List Rl, (∀ d ∈ l, lower d = [d]) → l.flatMap (fun d => (lower d).filter small3) = l.filter small3 := by
    intro l
    induction l with
    | nil => intro _; rfl
    | cons a l ih =>
      intro h
      rw [List.flatMap_cons, ih fun d hd => h d (List.mem_cons_of_mem _ hd), h a (by simp)]
      cases hs : small3 a <;> simp [hs, List.filter_cons]
  exact this _ (lower_lower r)
theorem viol_low {R : List Rl} {F : List Fc} : violL (R.flatMap lower) F = violL R F := by
  have hb : ∀ s, BadP (R.flatMap lower) F s ↔ BadP R F s := fun s => by unfold BadP; rw [denials_low]
  have hm : ∀ s, MinBad (R.flatMap lower) F s ↔ MinBad R F s := fun s => by unfold MinBad; simp only [hb]
  exact violL_eq ⟨(violL_ok R F).1, fun s => by rw [mem_violL, hm]⟩
end Go.Proofs.T1
namespace Go.Proofs.T1
open Go.Vc
open Tryz
set_option linter.unusedSimpArgs false
set_option linter.unusedVariables false
set_option maxHeartbeats 4000000
set_option maxRecDepth 20000
attribute [local simp] runD_nil runD_cons runDO runDG runDV stabs stabO stabG runK_nil runK_cons runG_t runG_f runS_some runS_none gate dstOf step2 step1 vq vop vlook mput mfind isKeyB keq fin1 hbox halloc hstore hbuild hbuildSlice happend hmake vslice bound vbuild partsOf elemsOf inOrder topvs toPV svCells splice srcOf isNil St.ev St.evs St.fits St.put St.new St.upd St.frzs St.frz lk hset litOf vbuiltin vlen vbin vindex vfield vload rdc pvs capsOf Value.oneCell'
attribute [local simp] tsz3 tagg3 tbytes3 tint3 tzero3 tzero1_3 tsz4 tagg4 tbytes4 tbool4 tzero4 tzero1_4 tsz5 tagg5 tbytes5 tint5 tzero5 tzero1_5 tsz9 tagg9 tbytes9 tstr9 tzero9 tzero1_9 tsz22 tagg22 tel22 tbytes22 tzero22 tzero1_22 tsz23 tagg23 tel23 tbytes23 tzero23 tzero1_23 tsz24 tagg24 tel24 tbytes24 tzero24 tzero1_24 tsz25 tagg25 tbytes25 tzero25 tzero1_25 tsz29 tagg29 tel29 tbytes29 tzero29 tzero1_29 tsz30 tagg30 tel30 tbytes30 tzero30 tzero1_30 tsz32 tagg32 tbytes32 tzero32 foff32_0 foff32_1 foff32_2 foff32_3 foff32_4 foff32_5 foff32_6 foff32_7 foff32_8 foff32_9 tsz33 tagg33 tel33 tbytes33 tzero33 tzero1_33 tsz34 tagg34 tbytes34 tint34 tzero34 tzero1_34 tsz38 tagg38 tbytes38 tzero38 foff38_0 foff38_1 foff38_2 tsz47 tagg47 tel47 tbytes47 tzero47 tzero1_47 tsz52 tagg52 tel52 tbytes52 tzero52 tzero1_52 tsz54 tagg54 tbytes54 tzero54 foff54_0 foff54_1 foff54_2 foff54_3 foff54_4 foff54_5 tsz79 tagg79 tbytes79 tzero79 foff79_0 foff79_1 foff79_2 tsz117 tagg117 tbytes117 tzero117 foff117_0 foff117_1 foff117_2 tsz119 tagg119 tbytes119 tzero119 foff119_0 foff119_1 tsz121 tagg121 tbytes121 tzero121 foff121_0 foff121_1 foff121_2 foff121_3 tsz129 tagg129 tbytes129 tzero129 tzero1_129 tsz130 tagg130 tbytes130 tzero130 tzero1_130 tsz132 tagg132 tbytes132 tzero132 tzero1_132 tsz206 tagg206 tbytes206 tzero206 tzero1_206 mtype206 tsz208 tagg208 tbytes208 tsz217 tagg217 tel217 tbytes217 tzero217 tzero1_217 tsz220 tagg220 tbytes220 tzero220 foff220_0 foff220_1 tsz235 tagg235 tel235 tbytes235 tzero235 tzero1_235 tsz256 tagg256 tbytes256 tzero256 tzero1_256 mtype256 tsz351 tagg351 tbytes351 tzero351 tsz2 tagg2 tbytes2 tint2 tzero2 tzero1_2 tsz291 tagg291 tbytes291 tint291 tzero291 tzero1_291 sized32 places32_0 places32_1 places32_2 places32_3 places32_4 places32_5 places32_6 places32_7 places32_8 places32_9 sized38 places38_0 places38_1 places38_2 sized54 places54_0 places54_1 places54_2 places54_3 places54_4 places54_5 sized79 places79_0 places79_1 places79_2 sized117 places117_0 places117_1 places117_2 sized119 places119_0 places119_1 sized121 places121_0 places121_1 places121_2 places121_3 sized220 places220_0 places220_1
attribute [local simp] V.c V.z Sd.c Tst.c Fx.c Rl.c Fc.c Gr.c wrap1f take_map_len take_map_len1 wrap1 wrap2 wrap3
theorem enters7 : Enters Tryz.prog 7 := enters_mk Tryz.func7 (by kernel_rfl) (by kernel_rfl)
theorem setsEq_self (a : List (List Int)) : setsEq a a = true := by
  unfold setsEq
  simp only [decide_true, Bool.true_and, List.all_eq_true]
  intro q hq
  have : q.1 = q.2 := by
    obtain ⟨i, hi, rfl⟩ := List.mem_iff_getElem.1 hq
    simp [List.getElem_zip]
  rw [this, lexLt_irrefl]
  rfl
theorem lower_kind {r d : Rl} (h : d ∈ lower r) : d.kind = 4 := by
  unfold lower at h
  split at h
  · simp at h; subst h; assumption
  · split at h
    · simp at h
    · simp at h; subst h; rfl
theorem lower_okr {r d : Rl} (hr : Okr r) (h : d ∈ lower r) : Okr d := by
  have hs := lower_sane hr h
  obtain ⟨h1, h2, h3, h4⟩ := hr
  unfold lower at h
  split at h
  · simp at h; subst h; exact ⟨h1, h2, h3, h4⟩
  · split at h
    · simp at h
    · simp at h; subst h
      refine ⟨by simp, by simp, by simp, ?_⟩
      show (lowTests r).length ≤ 60
      unfold lowTests
      have hf : (r.fixed.flatMap fun f => [fixTest f 0, fixTest f 1]).length ≤ 2 * r.fixed.length := by
        have := fixT_len r r.fixed.length
        rwa [fixT_all] at this
      simp only [List.length_append, List.length_map]
      split <;> simp at hf ⊢ <;> omega
def lowAt (R : List Rl) (k : Nat) : List Rl := (R.take k).flatMap lower
theorem lowAt_succ {R : List Rl} {k : Nat} (h : k < R.length) : lowAt R (k + 1) = lowAt R k ++ lower R[k] := by
  unfold lowAt
  rw [List.take_succ_eq_append_getElem h, List.flatMap_append]
  simp
theorem lowAt_len (R : List Rl) (k : Nat) : (lowAt R k).length ≤ k := by
  induction k with
  | zero => simp [lowAt]
  | succ k ih =>
    by_cases h : k < R.length
    · rw [lowAt_succ h, List.length_append]
      have := lower_len R[k]
      omega
    · have : lowAt R (k + 1) = lowAt R k := by unfold lowAt; rw [List.take_of_length_le (by omega), List.take_of_length_le (by omega)]
      rw [this]; omega
theorem law7_ok (R : List Rl) (F : List Fc) : CC Tryz.prog 7 [.pv (.sl 10 (prules R)), .pv (.sl 6 (pfacts F))] (fun sv => sv = sbool true) := by
  refine cc_of_pw Tryz.func7 rfl enters7 Tryz.ntmps7 (by simp) (pw_of_pws ?_)
  have hf := few_ok R F 12
  cases hq : fewQ R F 12 with
  | false =>
    rw [hq] at hf
    clear hq
    repeat' (first | with_reducible refine pws_seq ?_ | ((with_reducible refine pws_regk fun K' S hK' hS => ?_); simp [argSlots, *]) | ((with_reducible refine Goes.go hK' ?_); clear hK' hS; clear K' S) | ((with_reducible refine GoesS.go hS ?_); clear hK' hS; clear K' S) | ((with_reducible refine pws_true ?_ ?_); (· simp; done)) | with_reducible refine pws_ret ?_ | ((with_reducible refine pwl_callk (c := ?_) (x := ?_) (f := ?_) (svs := ?_) (cs := ?_) (Qr := ?_) true ?_ ?_ ?_ ?_ ?_ ?_ ?_ ?_ ?_); rotate_left 6; (· (simp [argSlots, *]; done)); (· rfl); (· rfl); (· (simp; with_reducible rfl)); (· (simp; with_reducible rfl)); (· first | (simp [bors, bor]; with_reducible rfl) | (simp [bors, bor, *]; with_reducible rfl)); (· rfl); (· ((with_reducible refine head_ok))); (rintro sv hsv hsc; clear hsc; obtain rfl := hsv; refine ⟨(by first | (intro _; rfl) | (intro h; cases h)), ?_⟩; refine pwl_runk fun K' S hK' hS => ?_; simp [argSlots, *])) | ((with_reducible refine pwl_callk (c := ?_) (x := ?_) (f := ?_) (svs := ?_) (cs := ?_) (Qr := ?_) true ?_ ?_ ?_ ?_ ?_ ?_ ?_ ?_ ?_); rotate_left 6; (· (simp [argSlots, *]; done)); (· rfl); (· rfl); (· (simp; with_reducible rfl)); (· (simp; with_reducible rfl)); (· first | (simp [bors, bor]; with_reducible rfl) | (simp [bors, bor, *]; with_reducible rfl)); (· rfl); (· ((with_reducible refine hf))); (rintro sv hsv hsc; clear hsc; obtain rfl := hsv; refine ⟨(by first | (intro _; rfl) | (intro h; cases h)), ?_⟩; refine pwl_runk fun K' S hK' hS => ?_; simp [argSlots, *])) | fail)
    all_goals (refine finC_ret (vs := ?_) [] (by first | exact .inr rfl | exact .inl rfl) rfl ?_ ?_ ?_; rotate_left; (· simp [Tryz.results7, resL, resOf]; rfl); (· first | rfl | (simp [wrapRes, cv, SV.const, constL]; done)); (· first | (simp [wrapRes, cv, *]; done) | (simp [wrapRes, cv, *]; grind) | (simp [wrapRes, cv, *]; omega)))
  | true =>
    rw [hq] at hf
    obtain ⟨hR, hF, hl⟩ := fewQ_ok hq
    clear hq
    have hvi := dViolations_ok R F hR (by omega) (by omega)
    repeat' (first | with_reducible refine pws_seq ?_ | with_reducible refine pws_skip ?_ | with_reducible refine pws_block ?_ | ((with_reducible refine pws_regk fun K' S hK' hS => ?_); simp [argSlots, *]) | ((with_reducible refine Goes.go hK' ?_); clear hK' hS; clear K' S) | ((with_reducible refine GoesS.go hS ?_); clear hK' hS; clear K' S) | ((with_reducible refine pws_false ?_ ?_); (· simp; done)) | ((with_reducible refine pwl_callk (c := ?_) (x := ?_) (f := ?_) (svs := ?_) (cs := ?_) (Qr := ?_) true ?_ ?_ ?_ ?_ ?_ ?_ ?_ ?_ ?_); rotate_left 6; (· (simp [argSlots, *]; done)); (· rfl); (· rfl); (· (simp; with_reducible rfl)); (· (simp; with_reducible rfl)); (· first | (simp [bors, bor]; with_reducible rfl) | (simp [bors, bor, *]; with_reducible rfl)); (· rfl); (· ((with_reducible refine head_ok))); (rintro sv hsv hsc; clear hsc; obtain rfl := hsv; refine ⟨(by first | (intro _; rfl) | (intro h; cases h)), ?_⟩; refine pwl_runk fun K' S hK' hS => ?_; simp [argSlots, *])) | ((with_reducible refine pwl_callk (c := ?_) (x := ?_) (f := ?_) (svs := ?_) (cs := ?_) (Qr := ?_) true ?_ ?_ ?_ ?_ ?_ ?_ ?_ ?_ ?_); rotate_left 6; (· (simp [argSlots, *]; done)); (· rfl); (· rfl); (· (simp; with_reducible rfl)); (· (simp; with_reducible rfl)); (· first | (simp [bors, bor]; with_reducible rfl) | (simp [bors, bor, *]; with_reducible rfl)); (· rfl); (· ((with_reducible refine hf))); (rintro sv hsv hsc; clear hsc; obtain rfl := hsv; refine ⟨(by first | (intro _; rfl) | (intro h; cases h)), ?_⟩; refine pwl_runk fun K' S hK' hS => ?_; simp [argSlots, *])) | fail)
    refine pws_ent (ent_adopts (v := 6) (t := 32) (es := 10) rfl (by decide)) ?_
    refine pws_loop (α := { v : Nat × Nat // v.1 ≤ R.length }) (fun v => { n := 71, nx := 1, s := [(7, sint v.1.1), (6, .loc 10 0 v.1.2 0 (lowAt R v.1.1).length), (5, sbool true), (0, .pv (.sl 10 (prules R))), (1, .pv (.sl 6 (pfacts F)))], h := [(0, .arr 32 10 v.1.2 false (prules (lowAt R v.1.1)))], d := [] }) (fun v => R.length - v.1.1) (fun _ => True) ⟨(0, 0), by simp⟩ trivial (ent_sub rfl rfl rfl (by simp [SubL, lowAt, *]) (by simp [SubL, lowAt, *]) (by simp) (by simp) (by simp [slotsBelow, SV.lo, belowL]) (by simp [heapBelow, ABlk.lo, SV.lo, belowL, slotsBelow])) ?_
    rintro ⟨⟨k, g⟩, hk⟩ _ K hK
    simp only at hk
    have hll := lowAt_len R k
    by_cases h1 : k < R.length
    · have hw := wrap64_id (n := (k : Int) + 1) (by omega)
      obtain ⟨o1, o2, o3, o4⟩ := hR _ (List.getElem_mem h1)
      have hlw := dLower_ok R[k] o1 o2
      have hsc := lowAt_succ h1
      have hkd : ∀ d ∈ lower R[k], d.kind = 4 := fun d hd => lower_kind hd
      rcases lower_cases R[k] with hlo | ⟨d, hlo⟩
      · rw [hlo] at hlw hsc
        simp at hsc
        have hb0 : (lowAt R k).length * 152 ≤ 140737488355328 := by omega
        clear hvi hkd
        generalize lowAt R k = G at *
        repeat' (first | with_reducible refine pws_seq ?_ | with_reducible refine pws_skip ?_ | with_reducible refine pws_block ?_ | ((with_reducible refine pws_regk fun K' S hK' hS => ?_); simp [argSlots, *]) | ((with_reducible refine Goes.go hK' ?_); clear hK' hS; clear K' S) | ((with_reducible refine GoesS.go hS ?_); clear hK' hS; clear K' S) | ((with_reducible refine pws_true ?_ ?_); (· simp; done)) | ((with_reducible refine pws_false ?_ ?_); (· simp; done)) | with_reducible refine blk_normal ?_ | with_reducible refine thenQ_normal ?_ | with_reducible refine pws_nil ?_ | ((with_reducible refine pwl_callk (c := ?_) (x := ?_) (f := ?_) (svs := ?_) (cs := ?_) (Qr := ?_) false ?_ ?_ ?_ ?_ ?_ ?_ ?_ ?_ ?_); rotate_left 6; (· (simp [argSlots, *]; done)); (· rfl); (· rfl); (· (simp; with_reducible rfl)); (· (simp; with_reducible rfl)); (· first | (simp [bors, bor]; with_reducible rfl) | (simp [bors, bor, *]; with_reducible rfl)); (· rfl); (· ((with_reducible refine hlw))); (rintro sv hsv hsc; clear hsc; obtain rfl := hsv; refine ⟨(by first | (intro _; rfl) | (intro h; cases h)), ?_⟩; refine pwl_runk fun K' S hK' hS => ?_; simp [argSlots, *])) | fail)
        refine hK _ ⟨(k + 1, g + 1), by simp; omega⟩ (ent_sub rfl rfl rfl (by simp [SubL, hsc, *]) (by simp [SubL, hsc, *]) (by simp) (by simp) (by simp [slotsBelow, SV.lo, belowL]) (by simp [heapBelow, ABlk.lo, SV.lo, belowL, slotsBelow])) trivial (by simp; omega)
      · rw [hlo] at hlw hsc
        have hd4 : d.kind = 4 := hkd d (by rw [hlo]; simp)
        have hb1 : ((lowAt R k).length + 1) * 152 ≤ 140737488355328 := by omega
        clear hvi hkd
        generalize lowAt R k = G at *
        repeat' (first | with_reducible refine pws_seq ?_ | with_reducible refine pws_skip ?_ | with_reducible refine pws_block ?_ | ((with_reducible refine pws_regk fun K' S hK' hS => ?_); simp [argSlots, *]) | ((with_reducible refine Goes.go hK' ?_); clear hK' hS; clear K' S) | ((with_reducible refine GoesS.go hS ?_); clear hK' hS; clear K' S) | ((with_reducible refine pws_true ?_ ?_); (· simp; done)) | ((with_reducible refine pws_false ?_ ?_); (· simp; done)) | with_reducible refine blk_normal ?_ | with_reducible refine thenQ_normal ?_ | with_reducible refine pws_nil ?_ | ((with_reducible refine pwl_callk (c := ?_) (x := ?_) (f := ?_) (svs := ?_) (cs := ?_) (Qr := ?_) false ?_ ?_ ?_ ?_ ?_ ?_ ?_ ?_ ?_); rotate_left 6; (· (simp [argSlots, *]; done)); (· rfl); (· rfl); (· (simp; with_reducible rfl)); (· (simp; with_reducible rfl)); (· first | (simp [bors, bor]; with_reducible rfl) | (simp [bors, bor, *]; with_reducible rfl)); (· rfl); (· ((with_reducible refine hlw))); (rintro sv hsv hsc; clear hsc; obtain rfl := hsv; refine ⟨(by first | (intro _; rfl) | (intro h; cases h)), ?_⟩; refine pwl_runk fun K' S hK' hS => ?_; simp [argSlots, *])) | fail)
        refine hK _ ⟨(k + 1, g + 1), by simp; omega⟩ (ent_sub rfl rfl rfl (by simp [SubL, hsc, *]) (by simp [SubL, hsc, *]) (by simp) (by simp) (by simp [slotsBelow, SV.lo, belowL]) (by simp [heapBelow, ABlk.lo, SV.lo, belowL, slotsBelow])) trivial (by simp; omega)
    · obtain rfl : k = R.length := by omega
      have hR2 : OkR (R.flatMap lower) := fun r h => by
        obtain ⟨q, hq, hr⟩ := List.mem_flatMap.1 h
        exact lower_okr (hR q hq) hr
      have hla : lowAt R R.length = R.flatMap lower := by unfold lowAt; rw [List.take_length]
      rw [hla] at hll ⊢
      have hv2 := dViolations_ok (R.flatMap lower) F hR2 (by omega) (by omega)
      rw [viol_low] at hv2
      have hse := sets_ok (violL R F) (violL R F)
      rw [setsEq_self] at hse
      clear hK hla hR2 hll hR hl hF
      generalize R.flatMap lower = L at *
      generalize violL R F = V at *
      repeat' (first | with_reducible refine pws_seq ?_ | ((with_reducible refine pws_regk fun K' S hK' hS => ?_); simp [argSlots, *]) | ((with_reducible refine Goes.go hK' ?_); clear hK' hS; clear K' S) | ((with_reducible refine GoesS.go hS ?_); clear hK' hS; clear K' S) | ((with_reducible refine pws_false ?_ ?_); (· simp; done)) | with_reducible refine blk_same ?_ | with_reducible refine thenQ_exit ?_ | with_reducible refine pws_exit ?_ | ((with_reducible refine pwl_callk (c := ?_) (x := ?_) (f := ?_) (svs := ?_) (cs := ?_) (Qr := ?_) false ?_ ?_ ?_ ?_ ?_ ?_ ?_ ?_ ?_); rotate_left 6; (· (simp [argSlots, *]; done)); (· rfl); (· rfl); (· (simp; with_reducible rfl)); (· (simp; with_reducible rfl)); (· first | (simp [bors, bor]; with_reducible rfl) | (simp [bors, bor, *]; with_reducible rfl)); (· rfl); (· ((with_reducible refine hvi))); (rintro sv hsv hsc; clear hsc; obtain rfl := hsv; refine ⟨(by first | (intro _; rfl) | (intro h; cases h)), ?_⟩; refine pwl_runk fun K' S hK' hS => ?_; simp [argSlots, *])) | fail)
      refine ent_frzs' [.loc 10 0 g 0 L.length] ?_
      repeat' (first | with_reducible refine pws_seq ?_ | ((with_reducible refine pws_regk fun K' S hK' hS => ?_); simp [argSlots, *]) | ((with_reducible refine Goes.go hK' ?_); clear hK' hS; clear K' S) | ((with_reducible refine GoesS.go hS ?_); clear hK' hS; clear K' S) | with_reducible refine pws_ret ?_ | ((with_reducible refine pwl_callk (c := ?_) (x := ?_) (f := ?_) (svs := ?_) (cs := ?_) (Qr := ?_) false ?_ ?_ ?_ ?_ ?_ ?_ ?_ ?_ ?_); rotate_left 6; (· (simp [argSlots, *]; done)); (· rfl); (· rfl); (· (simp; with_reducible rfl)); (· (simp; with_reducible rfl)); (· first | (simp [bors, bor]; with_reducible rfl) | (simp [bors, bor, *]; with_reducible rfl)); (· rfl); (· ((with_reducible refine hv2))); (rintro sv hsv hsc; clear hsc; obtain rfl := hsv; refine ⟨(by first | (intro _; rfl) | (intro h; cases h)), ?_⟩; refine pwl_runk fun K' S hK' hS => ?_; simp [argSlots, *])) | ((with_reducible refine pwl_callk (c := ?_) (x := ?_) (f := ?_) (svs := ?_) (cs := ?_) (Qr := ?_) false ?_ ?_ ?_ ?_ ?_ ?_ ?_ ?_ ?_); rotate_left 6; (· (simp [argSlots, *]; done)); (· rfl); (· rfl); (· (simp; with_reducible rfl)); (· (simp; with_reducible rfl)); (· first | (simp [bors, bor]; with_reducible rfl) | (simp [bors, bor, *]; with_reducible rfl)); (· rfl); (· ((with_reducible refine hse))); (rintro sv hsv hsc; clear hsc; obtain rfl := hsv; refine ⟨(by first | (intro _; rfl) | (intro h; cases h)), ?_⟩; refine pwl_runk fun K' S hK' hS => ?_; simp [argSlots, *])) | fail)
      all_goals (refine finC_ret (vs := ?_) [] (by first | exact .inr rfl | exact .inl rfl) rfl ?_ ?_ ?_; rotate_left; (· simp [Tryz.results7, resL, resOf]; rfl); (· first | rfl | (simp [wrapRes, cv, SV.const, constL]; done)); (· first | (simp [wrapRes, cv, *]; done) | (simp [wrapRes, cv, *]; grind) | (simp [wrapRes, cv, *]; omega)))
end Go.Proofs.T1
/- The law DenialLowers holds: for every input that the row lets in, the call returns true and each argument reads as before. Its row lists three package-level tables; the card ties them to the program's text. -/
set_option maxRecDepth 100000
namespace Go.Proofs.YtpnpkigicnmopaaGreatDoor
open Go Go.ChangeShapes Go.WideShapes Go.ChangeAt Go.WideMaps Go.WideElems Go.RowKit Go.Vc Go.Proofs.T1
theorem law7_lifted (os : Os) (started : os.Started) (H : Type) (enc : TypeId × Value → H) :
    ReturnsInHanded {} Tryz.checked os 7 .any (fun w args => (Rows.denialLowersSpec.pre enc Tryz.prog Tryz.f7 [] false w args ∧ laidMetH Tryz.prog laid3 w) ∧ sizedMet enc Tryz.prog Tryz.f7 (OpenSpec.ofChange Rows.denialLowersSpec) false w args)
      (Rows.denialLowersSpec.post enc Tryz.prog Tryz.f7 false true false false) := by
  refine returnsInHanded_of_change_and (C := Tryz.checked) (X := fun w _ => laidMetH Tryz.prog laid3 w) (fun _ _ _ hh h => h.of_heap hh) own started (by kernel_rfl) Tryz.func7
    (ChangeSpec.witness_shaped (enc := enc) (C := Tryz.checked) (os := os) (X := fun w _ => laidMetH Tryz.prog laid3 w) false (World.doorLaid Tryz.prog 400 os) #[.slice none 0 0, .slice none 0 0] 8 rfl (World.shaped_of_RefB (by kernel_rfl) (by kernel_rfl)) (by kernel_rfl) (by kernel_rfl) (by kernel_rfl) (door_met os _)) ?_
  intro W base args ds gs before hval0 hW _ _ _ _
  have hval : ∀ (j : Nat) t v, Tryz.f7.params[j]? = some t → args[j]? = some v → Value.okWide Tryz.prog W .any base t v := hval0
  have hW' := hW
  obtain ⟨p, q, hA0, _, _, _, _⟩ := hW
  have hA : DataW.TrodAll enc Tryz.prog W 0 (fun _ => true) true Tryz.f7.params.toList args.toList ds p := hA0
  rw [Tryz.params7] at hA hval
  obtain ⟨v0, vs0, d0, ds0, p0, q0, e0, rfl, rfl, h0, hA0⟩ := trodAll_cons hA
  obtain ⟨v1, vs1, d1, ds1, p1, q1, e1, rfl, rfl, h1, hA1⟩ := trodAll_cons hA0
  subst e1
  obtain ⟨e2, rfl, rfl⟩ := trodAll_nil hA1
  subst e2
  obtain rfl : args = #[v0, v1] := by rw [← Array.toArray_toList (xs := args), e0]
  obtain ⟨R0, r0⟩ := arg_rules (hval 0 22 v0 rfl rfl) h0
  obtain ⟨F1, r1⟩ := arg_facts (hval 1 23 v1 rfl rfl) h1
  refine law_post (svs := [.pv (.sl 10 (prules R0)), .pv (.sl 6 (pfacts F1))]) (law7_ok R0 F1) rfl (fun j sv u hj hu => ?_) hW' rfl rfl (by kernel_rfl) (by rw [Tryz.params7]; kernel_rfl)
  match j with
  | 0 => simp at hj hu; subst hj hu; exact .pv _ _ r0
  | 1 => simp at hj hu; subst hj hu; exact .pv _ _ r1
  | j + 2 => simp at hj
theorem law7_fact9 : (Rows.denialLowersRow.inPlace == Tryz.prog.inPlace 7) = true := by kernel_rfl
theorem law7_fact10 : (Rows.denialLowersRow.unfollowed == Tryz.prog.unfollowed 7) = true := by kernel_rfl
theorem law7_fact11 : (Rows.denialLowersRow.recurses == Tryz.prog.recurses 7) = true := by kernel_rfl
theorem law7_fact12 : (Rows.denialLowersRow.named == Tryz.prog.varsNamed 7) = true := by kernel_rfl
theorem law7_fact16 : (Rows.denialLowersRow.loops == (Tryz.f7.params.toList ++ Rows.denialLowersSpec.plain.varTypes Tryz.prog).any (Tryz.prog.loopsFrom ·)) = true := by kernel_rfl
theorem law7_facts : joinedFacts Tryz.prog 7 Tryz.f7 Rows.denialLowersSpec Rows.denialLowersRow = true :=
  joined (by kernel_rfl) (by kernel_rfl) (by kernel_rfl) (by kernel_rfl) (by kernel_rfl) law7_fact9 law7_fact10 law7_fact11 law7_fact12 (by kernel_rfl) (by kernel_rfl) (by kernel_rfl) law7_fact16 (by kernel_rfl) (by kernel_rfl) (by kernel_rfl) (by kernel_rfl) (by kernel_rfl) (by kernel_rfl) (by kernel_rfl) rfl rfl (by kernel_rfl) (by kernel_rfl) (by kernel_rfl) (by kernel_rfl)
theorem law7_named : Tryz.prog.funcNamed "cleanse/cleanselaw25.DenialLowers" = some 7 := by kernel_rfl
theorem law7_plain : Tryz.f7.isInstance Tryz.prog Rows.denialLowersRow.origin Rows.denialLowersRow.targs := of_decide_eq_true (by kernel_rfl)
theorem law7_own : Tryz.f7.isWrapper Tryz.prog Rows.denialLowersRow.wrapper Rows.denialLowersRow.mainSum := by
  unfold Func.isWrapper; first | (rw [if_pos (by decide +kernel)]; kernel_rfl) | (rw [if_neg (by decide +kernel)]; exact ⟨rfl, rfl⟩)
theorem law7_goes : false = Rows.denialLowersRow.goesBy Tryz.prog := by kernel_rfl
theorem law7_text : Rows.denialLowersRow.wfByText (OpenSpec.ofChange Rows.denialLowersSpec) = true := by kernel_rfl
theorem law7_said : Rows.DenialLowersSaid :=
  OpenClaim.holds_of_wide 7 Tryz.f7 rfl rfl rfl rfl rfl rfl rfl ⟨rfl, rfl, rfl, rfl, rfl⟩ rfl rfl rfl rfl rfl law7_named Tryz.func7 law7_facts law7_plain law7_own
    (fun os started H enc _ => law7_lifted os started H enc)
theorem law7_holds : Rows.DenialLowersCardSaid :=
  Claim7.holds_tied_plain_at .later [] [.data, .data, .data] true (true, "49c22cd40531e0a5935ea59eb1785f2fd0eb702db4aed61b97646984eda5cce0") true
    law7_said (fun _ h => by cases h) law7_text (fun _ h => by cases h) denialLowers_row_tie rfl ⟨rfl, rfl⟩ tryz_main rfl
    (fun f fn hf hfn => by
      obtain rfl : f = 7 := (Option.some.inj (law7_named.symm.trans hf)).symm
      obtain rfl : fn = Tryz.f7 := (Option.some.inj (Tryz.func7.symm.trans hfn)).symm
      exact ⟨tryz_looks, fun j t ht => by
        rw [Tryz.params7] at ht
        have hm : t ∈ [22, 23] := by simpa using Array.mem_of_getElem? ht
        have hall : ([22, 23].all fun u => !Tryz.prog.wantsStandIn u) = true := by kernel_rfl
        exact (show Tryz.prog.wantsStandIn t = false by simpa using List.all_eq_true.1 hall t hm)⟩)
    law7_goes
end Go.Proofs.YtpnpkigicnmopaaGreatDoor
