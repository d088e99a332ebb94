import Derived.Test.YtpnpkigicnmopaaGreatDoorL9B
import Derived.Laws.StructEq
import Derived.Lib.SliceRun
import Derived.Ground.NamesProg
import Derived.Shelf.Sort.Plain
/- The law DenialVariants holds: for every input that its row lets in, the call returns true and each argument reads as before. The row lists three package-level tables, which the card ties to the program's text. -/
set_option linter.unusedVariables false
set_option linter.unusedSimpArgs false
set_option linter.unnecessarySimpa false
set_option linter.all false
namespace Go.Proofs.T1
open Go.Vc
open Tryz
set_option linter.unusedSimpArgs false
set_option linter.unusedVariables false
set_option maxHeartbeats 4000000
set_option maxRecDepth 20000
attribute [local simp] runD_nil runD_cons runDO runDG runDV stabs stabO stabG runK_nil runK_cons runG_t runG_f runS_some runS_none gate dstOf step2 step1 vq vop vlook mput mfind isKeyB keq fin1 hbox halloc hstore hbuild hbuildSlice happend hmake vslice bound vbuild partsOf elemsOf inOrder topvs toPV svCells splice srcOf isNil St.ev St.evs St.fits St.put St.new St.upd St.frzs St.frz lk hset litOf vbuiltin vlen vbin vindex vfield vload rdc pvs capsOf Value.oneCell'
attribute [local simp] tsz3 tagg3 tbytes3 tint3 tzero3 tzero1_3 tsz4 tagg4 tbytes4 tbool4 tzero4 tzero1_4 tsz5 tagg5 tbytes5 tint5 tzero5 tzero1_5 tsz9 tagg9 tbytes9 tstr9 tzero9 tzero1_9 tsz22 tagg22 tel22 tbytes22 tzero22 tzero1_22 tsz23 tagg23 tel23 tbytes23 tzero23 tzero1_23 tsz24 tagg24 tel24 tbytes24 tzero24 tzero1_24 tsz25 tagg25 tbytes25 tzero25 tzero1_25 tsz29 tagg29 tel29 tbytes29 tzero29 tzero1_29 tsz30 tagg30 tel30 tbytes30 tzero30 tzero1_30 tsz32 tagg32 tbytes32 tzero32 foff32_0 foff32_1 foff32_2 foff32_3 foff32_4 foff32_5 foff32_6 foff32_7 foff32_8 foff32_9 tsz33 tagg33 tel33 tbytes33 tzero33 tzero1_33 tsz34 tagg34 tbytes34 tint34 tzero34 tzero1_34 tsz38 tagg38 tbytes38 tzero38 foff38_0 foff38_1 foff38_2 tsz47 tagg47 tel47 tbytes47 tzero47 tzero1_47 tsz52 tagg52 tel52 tbytes52 tzero52 tzero1_52 tsz54 tagg54 tbytes54 tzero54 foff54_0 foff54_1 foff54_2 foff54_3 foff54_4 foff54_5 tsz79 tagg79 tbytes79 tzero79 foff79_0 foff79_1 foff79_2 tsz117 tagg117 tbytes117 tzero117 foff117_0 foff117_1 foff117_2 tsz119 tagg119 tbytes119 tzero119 foff119_0 foff119_1 tsz121 tagg121 tbytes121 tzero121 foff121_0 foff121_1 foff121_2 foff121_3 tsz129 tagg129 tbytes129 tzero129 tzero1_129 tsz130 tagg130 tbytes130 tzero130 tzero1_130 tsz132 tagg132 tbytes132 tzero132 tzero1_132 tsz206 tagg206 tbytes206 tzero206 tzero1_206 mtype206 tsz208 tagg208 tbytes208 tsz217 tagg217 tel217 tbytes217 tzero217 tzero1_217 tsz220 tagg220 tbytes220 tzero220 foff220_0 foff220_1 tsz235 tagg235 tel235 tbytes235 tzero235 tzero1_235 tsz256 tagg256 tbytes256 tzero256 tzero1_256 mtype256 tsz351 tagg351 tbytes351 tzero351 tsz2 tagg2 tbytes2 tint2 tzero2 tzero1_2 tsz291 tagg291 tbytes291 tint291 tzero291 tzero1_291 sized32 places32_0 places32_1 places32_2 places32_3 places32_4 places32_5 places32_6 places32_7 places32_8 places32_9 sized38 places38_0 places38_1 places38_2 sized54 places54_0 places54_1 places54_2 places54_3 places54_4 places54_5 sized79 places79_0 places79_1 places79_2 sized117 places117_0 places117_1 places117_2 sized119 places119_0 places119_1 sized121 places121_0 places121_1 places121_2 places121_3 sized220 places220_0 places220_1
section
attribute [local simp] V.c V.z Sd.c Tst.c Fx.c Rl.c Fc.c Gr.c wrap1f take_map_len take_map_len1
def rOk (r : Rl) : Bool := decide (r.cols.length ≤ 12) && decide (r.fixed.length ≤ 12) && decide (r.tables.length ≤ 12) && decide (r.tests.length ≤ 12)
def vOk (v : V) : Bool := decide (v.t.size ≤ 300)
def fOk (f : Fc) : Bool := decide (f.row.length ≤ 20) && f.row.all vOk
def fewQ (R : List Rl) (F : List Fc) (n : Int) : Bool := decide (R.length ≤ 6) && decide ((F.length : Int) ≤ n) && R.all rOk && F.all fOk
theorem fewQ_t {R : List Rl} {F : List Fc} {n : Int} (h1 : R.length ≤ 6) (h2 : (F.length : Int) ≤ n) (h3 : ∀ j (h : j < R.length), rOk R[j] = true) (h4 : ∀ j (h : j < F.length), fOk F[j] = true) : fewQ R F n = true := by
  have a : R.all rOk = true := List.all_eq_true.2 fun r hr => by
    obtain ⟨j, hj, rfl⟩ := List.mem_iff_getElem.1 hr
    exact h3 j hj
  have b : F.all fOk = true := List.all_eq_true.2 fun r hr => by
    obtain ⟨j, hj, rfl⟩ := List.mem_iff_getElem.1 hr
    exact h4 j hj
  simp [fewQ, h1, h2, a, b]
theorem few_r {R : List Rl} {F : List Fc} {n : Int} (h1 : R.length ≤ 6) (h2 : (F.length : Int) ≤ n) {k : Nat} (hk : k < R.length) (hr : rOk R[k] = false) : fewQ R F n = false := by
  have a : R.all rOk = false := List.all_eq_false.2 ⟨R[k], List.getElem_mem hk, by simp [hr]⟩
  simp [fewQ, a]
theorem few_f {R : List Rl} {F : List Fc} {n : Int} {k : Nat} (hk : k < F.length) (hr : fOk F[k] = false) : fewQ R F n = false := by
  have a : F.all fOk = false := List.all_eq_false.2 ⟨F[k], List.getElem_mem hk, by simp [hr]⟩
  simp [fewQ, a]
theorem fewQ_ok {R : List Rl} {F : List Fc} {n : Int} (h : fewQ R F n = true) : OkR R ∧ (F.length : Int) ≤ n ∧ R.length ≤ 6 := by
  simp only [fewQ, Bool.and_eq_true, decide_eq_true_eq] at h
  refine ⟨fun r hr => ?_, h.1.1.2, h.1.1.1⟩
  have := List.all_eq_true.1 h.1.2 r hr
  simp only [rOk, Bool.and_eq_true, decide_eq_true_eq] at this
  exact ⟨this.1.1.1, this.1.1.2, this.1.2, by have := this.2; omega⟩
theorem few_ok (R : List Rl) (F : List Fc) (n : Int) : CC Tryz.prog 24 [.pv (.sl 10 (prules R)), .pv (.sl 6 (pfacts F)), sint n] (fun sv => sv = sbool (fewQ R F n)) := by
  refine cc_of_pw Tryz.func24 rfl enters24 Tryz.ntmps24 (by simp) (pw_of_pws ?_)
  by_cases hn1 : R.length ≤ 6
  · have hn1i : ¬ (6 : Int) < R.length := by omega
    by_cases hn2 : (F.length : Int) ≤ n
    · have hn2i : ¬ n < (F.length : Int) := by omega
      refine pws_ent (Ent.refl _) (pws_len (t := 1) (es := 6) (xs := pfacts F) rfl fun hxF => ?_)
      simp [maxLen] at hxF
      repeat' (first | with_reducible refine pws_seq ?_ | with_reducible refine pws_skip ?_ | with_reducible refine pws_block ?_ | ((with_reducible refine pws_regk fun K' S hK' hS => ?_); simp [argSlots, *]) | ((with_reducible refine Goes.go hK' ?_); clear hK' hS; clear K' S) | ((with_reducible refine pws_false ?_ ?_); (· simp; done)))
      refine pws_loop (α := { k : Nat // k ≤ R.length }) (fun k => { n := 93, nx := 0, s := [(7, sint k.1), (0, .pv (.sl 10 (prules R))), (1, .pv (.sl 6 (pfacts F)))], h := [], d := [] }) (fun k => R.length - k.1) (fun k => ∀ j (h : j < R.length), j < k.1 → rOk R[j] = true) ⟨0, by omega⟩ (by simp) (ent_sub rfl rfl rfl (by simp [SubL, *]) (by simp [SubL, *]) (by simp) (by simp) (by simp [slotsBelow, SV.lo, belowL]) (by simp [heapBelow, ABlk.lo, SV.lo, belowL, slotsBelow])) ?_
      rintro ⟨k, hk⟩ hok K hK
      simp only at hok
      by_cases h1 : k < R.length
      · have hw := wrap64_id (n := (k : Int) + 1) (by omega)
        by_cases c0 : 12 < R[k].cols.length
        · have c0i : (12 : Int) < R[k].cols.length := by omega
          have hr : rOk R[k] = false := by simp [rOk]; omega
          have hf : fewQ R F n = false := few_r hn1 hn2 h1 hr
          clear hok hK
          repeat' (first | with_reducible refine pws_seq ?_ | with_reducible refine pws_skip ?_ | with_reducible refine pws_block ?_ | ((with_reducible refine pws_regk fun K' S hK' hS => ?_); simp [argSlots, *]) | ((with_reducible refine Goes.go hK' ?_); clear hK' hS; clear K' S) | ((with_reducible refine pws_true ?_ ?_); (· simp; done)) | with_reducible refine pws_ret ?_ | with_reducible refine blk_ret ?_ | with_reducible refine thenQ_ret ?_)
          all_goals (refine finC_ret (vs := ?_) [] (by first | exact .inr rfl | exact .inl rfl) rfl ?_ ?_ ?_; rotate_left; (· simp [Tryz.results24, resL, resOf]; rfl); (· first | rfl | (simp [wrapRes, cv, SV.const, constL]; done)); (· first | (simp [wrapRes, cv, *]; done) | (simp [wrapRes, cv, *]; grind) | (simp [wrapRes, cv, *]; omega)))
        · have c0i : ¬ (12 : Int) < R[k].cols.length := by omega
          by_cases c1 : 12 < R[k].fixed.length
          · have c1i : (12 : Int) < R[k].fixed.length := by omega
            have hr : rOk R[k] = false := by simp [rOk]; omega
            have hf : fewQ R F n = false := few_r hn1 hn2 h1 hr
            clear hok hK
            repeat' (first | with_reducible refine pws_seq ?_ | with_reducible refine pws_skip ?_ | with_reducible refine pws_block ?_ | ((with_reducible refine pws_regk fun K' S hK' hS => ?_); simp [argSlots, *]) | ((with_reducible refine Goes.go hK' ?_); clear hK' hS; clear K' S) | ((with_reducible refine pws_true ?_ ?_); (· simp; done)) | with_reducible refine pws_ret ?_ | with_reducible refine blk_ret ?_ | with_reducible refine thenQ_ret ?_)
            all_goals (refine finC_ret (vs := ?_) [] (by first | exact .inr rfl | exact .inl rfl) rfl ?_ ?_ ?_; rotate_left; (· simp [Tryz.results24, resL, resOf]; rfl); (· first | rfl | (simp [wrapRes, cv, SV.const, constL]; done)); (· first | (simp [wrapRes, cv, *]; done) | (simp [wrapRes, cv, *]; grind) | (simp [wrapRes, cv, *]; omega)))
          · have c1i : ¬ (12 : Int) < R[k].fixed.length := by omega
            by_cases c2 : 12 < R[k].tables.length
            · have c2i : (12 : Int) < R[k].tables.length := by omega
              have hr : rOk R[k] = false := by simp [rOk]; omega
              have hf : fewQ R F n = false := few_r hn1 hn2 h1 hr
              clear hok hK
              repeat' (first | with_reducible refine pws_seq ?_ | with_reducible refine pws_skip ?_ | with_reducible refine pws_block ?_ | ((with_reducible refine pws_regk fun K' S hK' hS => ?_); simp [argSlots, *]) | ((with_reducible refine Goes.go hK' ?_); clear hK' hS; clear K' S) | ((with_reducible refine pws_true ?_ ?_); (· simp; done)) | with_reducible refine pws_ret ?_ | with_reducible refine blk_ret ?_ | with_reducible refine thenQ_ret ?_)
              all_goals (refine finC_ret (vs := ?_) [] (by first | exact .inr rfl | exact .inl rfl) rfl ?_ ?_ ?_; rotate_left; (· simp [Tryz.results24, resL, resOf]; rfl); (· first | rfl | (simp [wrapRes, cv, SV.const, constL]; done)); (· first | (simp [wrapRes, cv, *]; done) | (simp [wrapRes, cv, *]; grind) | (simp [wrapRes, cv, *]; omega)))
            · have c2i : ¬ (12 : Int) < R[k].tables.length := by omega
              by_cases c3 : 12 < R[k].tests.length
              · have c3i : (12 : Int) < R[k].tests.length := by omega
                have hr : rOk R[k] = false := by simp [rOk]; omega
                have hf : fewQ R F n = false := few_r hn1 hn2 h1 hr
                clear hok hK
                repeat' (first | with_reducible refine pws_seq ?_ | with_reducible refine pws_skip ?_ | with_reducible refine pws_block ?_ | ((with_reducible refine pws_regk fun K' S hK' hS => ?_); simp [argSlots, *]) | ((with_reducible refine Goes.go hK' ?_); clear hK' hS; clear K' S) | ((with_reducible refine pws_true ?_ ?_); (· simp; done)) | with_reducible refine pws_ret ?_ | with_reducible refine blk_ret ?_ | with_reducible refine thenQ_ret ?_)
                all_goals (refine finC_ret (vs := ?_) [] (by first | exact .inr rfl | exact .inl rfl) rfl ?_ ?_ ?_; rotate_left; (· simp [Tryz.results24, resL, resOf]; rfl); (· first | rfl | (simp [wrapRes, cv, SV.const, constL]; done)); (· first | (simp [wrapRes, cv, *]; done) | (simp [wrapRes, cv, *]; grind) | (simp [wrapRes, cv, *]; omega)))
              · have c3i : ¬ (12 : Int) < R[k].tests.length := by omega
                have hr : rOk R[k] = true := by simp [rOk]; omega
                have hok2 : ∀ j (h : j < R.length), j < k + 1 → rOk R[j] = true := fun j h hj => by
                  by_cases e : j = k
                  · subst e; exact hr
                  · exact hok j h (by omega)
                clear hok
                repeat' (first | with_reducible refine pws_seq ?_ | with_reducible refine pws_skip ?_ | with_reducible refine pws_block ?_ | ((with_reducible refine pws_regk fun K' S hK' hS => ?_); simp [argSlots, *]) | ((with_reducible refine Goes.go hK' ?_); clear hK' hS; clear K' S) | ((with_reducible refine pws_true ?_ ?_); (· simp; done)) | ((with_reducible refine pws_false ?_ ?_); (· simp; done)) | with_reducible refine blk_normal ?_ | with_reducible refine thenQ_normal ?_ | with_reducible refine pws_nil ?_)
                refine hK _ ⟨k + 1, by omega⟩ (ent_sub rfl rfl rfl (by simp [SubL, *]) (by simp [SubL, *]) (by simp) (by simp) (by simp [slotsBelow, SV.lo, belowL]) (by simp [heapBelow, ABlk.lo, SV.lo, belowL, slotsBelow])) ?_ (by simp; omega)
                exact hok2
      · have hR : ∀ j (h : j < R.length), rOk R[j] = true := fun j h => hok j h (by omega)
        clear hok hK
        repeat' (first | with_reducible refine pws_seq ?_ | with_reducible refine pws_block ?_ | ((with_reducible refine pws_regk fun K' S hK' hS => ?_); simp [argSlots, *]) | ((with_reducible refine Goes.go hK' ?_); clear hK' hS; clear K' S) | ((with_reducible refine pws_false ?_ ?_); (· simp; done)) | with_reducible refine blk_same ?_ | with_reducible refine thenQ_exit ?_ | with_reducible refine pws_exit ?_)
        refine pws_loop (α := { k : Nat // k ≤ F.length }) (fun k => { n := 93, nx := 0, s := [(8, sint k.1), (0, .pv (.sl 10 (prules R))), (1, .pv (.sl 6 (pfacts F)))], h := [], d := [] }) (fun k => F.length - k.1) (fun k => ∀ j (h : j < F.length), j < k.1 → fOk F[j] = true) ⟨0, by omega⟩ (by simp) (ent_sub rfl rfl rfl (by simp [SubL, *]) (by simp [SubL, *]) (by simp) (by simp) (by simp [slotsBelow, SV.lo, belowL]) (by simp [heapBelow, ABlk.lo, SV.lo, belowL, slotsBelow])) ?_
        rintro ⟨k, hk⟩ hok K hK
        simp only at hok
        by_cases h1 : k < F.length
        · have hw := wrap64_id (n := (k : Int) + 1) (by omega)
          by_cases c1 : 20 < F[k].row.length
          · have c1i : (20 : Int) < F[k].row.length := by omega
            have hr : fOk F[k] = false := by simp [fOk]; omega
            have hf : fewQ R F n = false := few_f h1 hr
            clear hok hK hR
            repeat' (first | with_reducible refine pws_seq ?_ | with_reducible refine pws_skip ?_ | with_reducible refine pws_block ?_ | ((with_reducible refine pws_regk fun K' S hK' hS => ?_); simp [argSlots, *]) | ((with_reducible refine Goes.go hK' ?_); clear hK' hS; clear K' S) | ((with_reducible refine pws_true ?_ ?_); (· simp; done)) | with_reducible refine pws_ret ?_ | with_reducible refine blk_ret ?_ | with_reducible refine thenQ_ret ?_)
            all_goals (refine finC_ret (vs := ?_) [] (by first | exact .inr rfl | exact .inl rfl) rfl ?_ ?_ ?_; rotate_left; (· simp [Tryz.results24, resL, resOf]; rfl); (· first | rfl | (simp [wrapRes, cv, SV.const, constL]; done)); (· first | (simp [wrapRes, cv, *]; done) | (simp [wrapRes, cv, *]; grind) | (simp [wrapRes, cv, *]; omega)))
          · have c1i : ¬ (20 : Int) < F[k].row.length := by omega
            repeat' (first | with_reducible refine pws_seq ?_ | with_reducible refine pws_skip ?_ | with_reducible refine pws_block ?_ | ((with_reducible refine pws_regk fun K' S hK' hS => ?_); simp [argSlots, *]) | ((with_reducible refine Goes.go hK' ?_); clear hK' hS; clear K' S) | ((with_reducible refine pws_true ?_ ?_); (· simp; done)) | ((with_reducible refine pws_false ?_ ?_); (· simp; done)))
            refine pws_loop (α := { m : Nat // m ≤ F[k].row.length }) (fun m => { n := 93, nx := 0, s := [(9, sint m.1), (8, sint k), (0, .pv (.sl 10 (prules R))), (1, .pv (.sl 6 (pfacts F)))], h := [], d := [] }) (fun m => F[k].row.length - m.1) (fun m => (F[k].row.drop m.1).all vOk = F[k].row.all vOk) ⟨0, by omega⟩ (by simp) (ent_sub rfl rfl rfl (by simp [SubL, *]) (by simp [SubL, *]) (by simp) (by simp) (by simp [slotsBelow, SV.lo, belowL]) (by simp [heapBelow, ABlk.lo, SV.lo, belowL, slotsBelow])) ?_
            rintro ⟨m, hm⟩ hok2 K2 hK2
            simp only at hok2
            by_cases h2 : m < F[k].row.length
            · have hw2 := wrap64_id (n := (m : Int) + 1) (by omega)
              have hd := all_drop vOk h2
              rw [hok2] at hd
              by_cases c2 : 300 < F[k].row[m].t.size
              · have c2i : (300 : Int) < F[k].row[m].t.size := by omega
                have hv : vOk F[k].row[m] = false := by simp [vOk]; omega
                have hr : fOk F[k] = false := by simp [fOk, hd, hv]
                have hf : fewQ R F n = false := few_f h1 hr
                clear hok hK hR hok2 hK2 hd
                repeat' (first | with_reducible refine pws_seq ?_ | with_reducible refine pws_skip ?_ | with_reducible refine pws_block ?_ | ((with_reducible refine pws_regk fun K' S hK' hS => ?_); simp [argSlots, *]) | ((with_reducible refine Goes.go hK' ?_); clear hK' hS; clear K' S) | ((with_reducible refine pws_true ?_ ?_); (· simp; done)) | with_reducible refine pws_ret ?_ | with_reducible refine blk_ret ?_ | with_reducible refine thenQ_ret ?_)
                all_goals (refine finC_ret (vs := ?_) [] (by first | exact .inr rfl | exact .inl rfl) rfl ?_ ?_ ?_; rotate_left; (· simp [Tryz.results24, resL, resOf]; rfl); (· first | rfl | (simp [wrapRes, cv, SV.const, constL]; done)); (· first | (simp [wrapRes, cv, *]; done) | (simp [wrapRes, cv, *]; grind) | (simp [wrapRes, cv, *]; omega)))
              · have c2i : ¬ (300 : Int) < F[k].row[m].t.size := by omega
                have hv : vOk F[k].row[m] = true := by simp [vOk]; omega
                have hd' : (F[k].row.drop (m + 1)).all vOk = F[k].row.all vOk := by rw [hd, hv]; rfl
                clear hok hK hok2 hd
                repeat' (first | with_reducible refine pws_seq ?_ | with_reducible refine pws_skip ?_ | with_reducible refine pws_block ?_ | ((with_reducible refine pws_regk fun K' S hK' hS => ?_); simp [argSlots, *]) | ((with_reducible refine Goes.go hK' ?_); clear hK' hS; clear K' S) | ((with_reducible refine pws_true ?_ ?_); (· simp; done)) | ((with_reducible refine pws_false ?_ ?_); (· simp; done)) | with_reducible refine blk_normal ?_ | with_reducible refine thenQ_normal ?_ | with_reducible refine pws_nil ?_)
                refine hK2 _ ⟨m + 1, by omega⟩ (ent_sub rfl rfl rfl (by simp [SubL, *]) (by simp [SubL, *]) (by simp) (by simp) (by simp [slotsBelow, SV.lo, belowL]) (by simp [heapBelow, ABlk.lo, SV.lo, belowL, slotsBelow])) ?_ (by simp; omega)
                exact hd'
            · have hd := all_end vOk h2
              rw [hok2] at hd
              have hr : fOk F[k] = true := by simp [fOk, hd]; omega
              have hok3 : ∀ j (h : j < F.length), j < k + 1 → fOk F[j] = true := fun j h hj => by
                by_cases e : j = k
                · subst e; exact hr
                · exact hok j h (by omega)
              have hm' : ¬ (m : Int) < F[k].row.length := by omega
              clear hok hok2 hK2 hd
              repeat' (first | with_reducible refine pws_seq ?_ | ((with_reducible refine pws_regk fun K' S hK' hS => ?_); simp [argSlots, *]) | ((with_reducible refine Goes.go hK' ?_); clear hK' hS; clear K' S) | ((with_reducible refine pws_false ?_ ?_); (· simp; done)) | with_reducible refine blk_normal ?_ | with_reducible refine blk_same ?_ | with_reducible refine thenQ_exit ?_ | with_reducible refine thenQ_normal ?_ | with_reducible refine pws_nil ?_ | with_reducible refine pws_exit ?_)
              refine hK _ ⟨k + 1, by omega⟩ (ent_sub rfl rfl rfl (by simp [SubL, *]) (by simp [SubL, *]) (by simp) (by simp) (by simp [slotsBelow, SV.lo, belowL]) (by simp [heapBelow, ABlk.lo, SV.lo, belowL, slotsBelow])) ?_ (by simp; omega)
              exact hok3
        · have hf : fewQ R F n = true := fewQ_t hn1 hn2 hR (fun j h => hok j h (by omega))
          clear hok hK
          repeat' (first | with_reducible refine pws_seq ?_ | ((with_reducible refine pws_regk fun K' S hK' hS => ?_); simp [argSlots, *]) | ((with_reducible refine Goes.go hK' ?_); clear hK' hS; clear K' S) | ((with_reducible refine pws_false ?_ ?_); (· simp; done)) | with_reducible refine pws_ret ?_ | with_reducible refine blk_same ?_ | with_reducible refine thenQ_exit ?_ | with_reducible refine pws_exit ?_)
          all_goals (refine finC_ret (vs := ?_) [] (by first | exact .inr rfl | exact .inl rfl) rfl ?_ ?_ ?_; rotate_left; (· simp [Tryz.results24, resL, resOf]; rfl); (· first | rfl | (simp [wrapRes, cv, SV.const, constL]; done)); (· first | (simp [wrapRes, cv, *]; done) | (simp [wrapRes, cv, *]; grind) | (simp [wrapRes, cv, *]; omega)))
    · have hn2i : n < (F.length : Int) := by omega
      repeat' (first | with_reducible refine pws_seq ?_ | ((with_reducible refine pws_regk fun K' S hK' hS => ?_); simp [argSlots, *]) | ((with_reducible refine Goes.go hK' ?_); clear hK' hS; clear K' S) | ((with_reducible refine pws_true ?_ ?_); (· simp; done)) | with_reducible refine pws_ret ?_)
      all_goals (refine finC_ret (vs := ?_) [] (by first | exact .inr rfl | exact .inl rfl) rfl ?_ ?_ ?_; rotate_left; (· simp [Tryz.results24, resL, resOf]; rfl); (· first | rfl | (simp [wrapRes, cv, SV.const, constL]; done)); (· first | (simp [wrapRes, cv, fewQ, *]; done) | (simp [wrapRes, cv, fewQ, *]; grind) | (simp [wrapRes, cv, fewQ, *]; omega)))
  · have hn1i : (6 : Int) < R.length := by omega
    repeat' (first | with_reducible refine pws_seq ?_ | ((with_reducible refine pws_regk fun K' S hK' hS => ?_); simp [argSlots, *]) | ((with_reducible refine Goes.go hK' ?_); clear hK' hS; clear K' S) | ((with_reducible refine pws_true ?_ ?_); (· simp; done)) | with_reducible refine pws_ret ?_)
    all_goals (refine finC_ret (vs := ?_) [] (by first | exact .inr rfl | exact .inl rfl) rfl ?_ ?_ ?_; rotate_left; (· simp [Tryz.results24, resL, resOf]; rfl); (· first | rfl | (simp [wrapRes, cv, SV.const, constL]; done)); (· first | (simp [wrapRes, cv, fewQ, *]; done) | (simp [wrapRes, cv, fewQ, *]; grind) | (simp [wrapRes, cv, fewQ, *]; omega)))
end
end Go.Proofs.T1
namespace Go.Vc
open Go.RowKit
variable {P : Program} {n0 : Nat} {r : Option Nat}
end Go.Vc
namespace Go.Proofs.T1
open Go.Vc
end Go.Proofs.T1
namespace Go.Proofs.T1
open Go.Vc
open Tryz
set_option linter.unusedSimpArgs false
set_option linter.unusedVariables false
set_option maxHeartbeats 4000000
set_option maxRecDepth 20000
attribute [local simp] runD_nil runD_cons runDO runDG runDV stabs stabO stabG runK_nil runK_cons runG_t runG_f runS_some runS_none gate dstOf step2 step1 vq vop vlook mput mfind isKeyB keq fin1 hbox halloc hstore hbuild hbuildSlice happend hmake vslice bound vbuild partsOf elemsOf inOrder topvs toPV svCells splice srcOf isNil St.ev St.evs St.fits St.put St.new St.upd St.frzs St.frz lk hset litOf vbuiltin vlen vbin vindex vfield vload rdc pvs capsOf Value.oneCell'
attribute [local simp] tsz3 tagg3 tbytes3 tint3 tzero3 tzero1_3 tsz4 tagg4 tbytes4 tbool4 tzero4 tzero1_4 tsz5 tagg5 tbytes5 tint5 tzero5 tzero1_5 tsz9 tagg9 tbytes9 tstr9 tzero9 tzero1_9 tsz22 tagg22 tel22 tbytes22 tzero22 tzero1_22 tsz23 tagg23 tel23 tbytes23 tzero23 tzero1_23 tsz24 tagg24 tel24 tbytes24 tzero24 tzero1_24 tsz25 tagg25 tbytes25 tzero25 tzero1_25 tsz29 tagg29 tel29 tbytes29 tzero29 tzero1_29 tsz30 tagg30 tel30 tbytes30 tzero30 tzero1_30 tsz32 tagg32 tbytes32 tzero32 foff32_0 foff32_1 foff32_2 foff32_3 foff32_4 foff32_5 foff32_6 foff32_7 foff32_8 foff32_9 tsz33 tagg33 tel33 tbytes33 tzero33 tzero1_33 tsz34 tagg34 tbytes34 tint34 tzero34 tzero1_34 tsz38 tagg38 tbytes38 tzero38 foff38_0 foff38_1 foff38_2 tsz47 tagg47 tel47 tbytes47 tzero47 tzero1_47 tsz52 tagg52 tel52 tbytes52 tzero52 tzero1_52 tsz54 tagg54 tbytes54 tzero54 foff54_0 foff54_1 foff54_2 foff54_3 foff54_4 foff54_5 tsz79 tagg79 tbytes79 tzero79 foff79_0 foff79_1 foff79_2 tsz117 tagg117 tbytes117 tzero117 foff117_0 foff117_1 foff117_2 tsz119 tagg119 tbytes119 tzero119 foff119_0 foff119_1 tsz121 tagg121 tbytes121 tzero121 foff121_0 foff121_1 foff121_2 foff121_3 tsz129 tagg129 tbytes129 tzero129 tzero1_129 tsz130 tagg130 tbytes130 tzero130 tzero1_130 tsz132 tagg132 tbytes132 tzero132 tzero1_132 tsz206 tagg206 tbytes206 tzero206 tzero1_206 mtype206 tsz208 tagg208 tbytes208 tsz217 tagg217 tel217 tbytes217 tzero217 tzero1_217 tsz220 tagg220 tbytes220 tzero220 foff220_0 foff220_1 tsz235 tagg235 tel235 tbytes235 tzero235 tzero1_235 tsz256 tagg256 tbytes256 tzero256 tzero1_256 mtype256 tsz351 tagg351 tbytes351 tzero351 tsz2 tagg2 tbytes2 tint2 tzero2 tzero1_2 tsz291 tagg291 tbytes291 tint291 tzero291 tzero1_291 sized32 places32_0 places32_1 places32_2 places32_3 places32_4 places32_5 places32_6 places32_7 places32_8 places32_9 sized38 places38_0 places38_1 places38_2 sized54 places54_0 places54_1 places54_2 places54_3 places54_4 places54_5 sized79 places79_0 places79_1 places79_2 sized117 places117_0 places117_1 places117_2 sized119 places119_0 places119_1 sized121 places121_0 places121_1 places121_2 places121_3 sized220 places220_0 places220_1
section
attribute [local simp] V.c V.z Sd.c Tst.c Fx.c Rl.c Fc.c Gr.c wrap1f take_map_len take_map_len1 wrap1 wrap2 wrap3
theorem enters26 : Enters Tryz.prog 26 := enters_mk Tryz.func26 (by kernel_rfl) (by kernel_rfl)
theorem enters79 : Enters Tryz.prog 79 := enters_mk Tryz.func79 (by kernel_rfl) (by kernel_rfl)
theorem enters83 : Enters Tryz.prog 83 := enters_mk Tryz.func83 (by kernel_rfl) (by kernel_rfl)
theorem enters145 : Enters Tryz.prog 145 := enters_mk Tryz.func145 (by kernel_rfl) (by kernel_rfl)
theorem enters202 : Enters Tryz.prog 202 := enters_mk Tryz.func202 (by kernel_rfl) (by kernel_rfl)
theorem enters257 : Enters Tryz.prog 257 := enters_mk Tryz.func257 (by kernel_rfl) (by kernel_rfl)
theorem lower1_ok (c op : Int) : CC Tryz.prog 79 [sint c, sint op] (fun sv => sv = .agg (colTest c op).c) := by
  refine cc_of_pw Tryz.func79 rfl enters79 Tryz.ntmps79 (by simp) (pw_of_pws ?_)
  repeat' (first | with_reducible refine pws_seq ?_ | ((with_reducible refine pws_regk fun K' S hK' hS => ?_); simp [argSlots, *]) | ((with_reducible refine Goes.go hK' ?_); clear hK' hS; clear K' S) | with_reducible refine pws_ret ?_)
  all_goals (refine finC_ret (vs := ?_) [] (by first | exact .inr rfl | exact .inl rfl) rfl ?_ ?_ ?_; rotate_left; (· simp [Tryz.results79, resL, resOf]; rfl); (· first | rfl | (simp [wrapRes, cv, SV.const, constL]; done)); (· first | (simp [wrapRes, cv, colTest, *]; done) | (simp [wrapRes, cv, colTest, *]; grind) | (simp [wrapRes, cv, colTest, *]; omega)))
theorem dLower_ok (r : Rl) (hc : r.cols.length ≤ 12) (hf : r.fixed.length ≤ 12) : CC Tryz.prog 26 [.agg r.c] (fun sv => sv = .pv (.sl 10 ((lower r).map Rl.c))) := by
  refine CC.res ?_
  refine cc_of_pw Tryz.func26 rfl enters26 Tryz.ntmps26 (by simp) (pw_of_pws ?_)
  by_cases h4 : r.kind = 4
  · have hlow : lower r = [r] := by simp [lower, h4]
    repeat' (first | with_reducible refine pws_seq ?_ | with_reducible refine pws_block ?_ | ((with_reducible refine pws_regk fun K' S hK' hS => ?_); simp [argSlots, *]) | ((with_reducible refine Goes.go hK' ?_); clear hK' hS; clear K' S) | ((with_reducible refine pws_true ?_ ?_); (· simp; done)) | with_reducible refine pws_ret ?_ | with_reducible refine blk_ret ?_)
    refine finC_ret (vs := ?_) [.loc 10 3 0 0 1] (.inr rfl) rfl ?_ ?_ ?_
    rotate_left
    · simp [Tryz.results26, resL, resOf]; rfl
    · simp [wrapRes, cv, SV.const]
    · rw [hlow]
      simp [wrapRes, cv, h4]
      (repeat' (first | with_reducible exact SLe.refl _))
  · by_cases h2 : r.kind = 2
    · repeat' (first | with_reducible refine pws_seq ?_ | with_reducible refine pws_block ?_ | ((with_reducible refine pws_regk fun K' S hK' hS => ?_); simp [argSlots, *]) | ((with_reducible refine Goes.go hK' ?_); clear hK' hS; clear K' S) | ((with_reducible refine pws_true ?_ ?_); (· simp; done)) | ((with_reducible refine pws_false ?_ ?_); (· simp; done)))
      refine pws_ent (ent_adopt (b := 2) (j := 9) (t := 121) (es := 12) rfl rfl (by decide)) ?_
      refine pws_loop (α := { k : Nat // k ≤ r.fixed.length }) (fun k => { n := 83, nx := 4, s := [(31, sint k.1), (30, sint r.fixed.length), (29, .pv (.sl 4 (r.fixed.map Fx.c))), (3, .clos 79 []), (1, .ref 0 0), (4, .ref 2 0)], h := lowH r (fixT r k.1), d := [] }) (fun k => r.fixed.length - k.1) (fun _ => True) ⟨0, by omega⟩ trivial (ent_sub rfl rfl rfl (by simp [SubL, *]) (by simp [SubL, fixT, *]) (by simp) (by simp) (by simp [slotsBelow, SV.lo, belowL]) (by simp [heapBelow, ABlk.lo, SV.lo, belowL, slotsBelow])) ?_
      rintro ⟨k, hk⟩ hok K hK
      have hlen := fixT_len r k
      by_cases h1 : k < r.fixed.length
      · have hw := wrap64_id (n := (k : Int) + 1) (by omega)
        have hs := fixT_succ r k h1
        generalize fixT r k = T at hlen hs
        have hb1 : (T.length + 1) * 112 ≤ 140737488355328 := fewB _ (by omega)
        have hb2 : (T.length + 1 + 1) * 112 ≤ 140737488355328 := fewB _ (by omega)
        repeat' (first | with_reducible refine pws_seq ?_ | with_reducible refine pws_skip ?_ | with_reducible refine pws_block ?_ | ((with_reducible refine pws_regk fun K' S hK' hS => ?_); simp [*]) | ((with_reducible refine Goes.go hK' ?_); clear hK' hS; clear K' S) | ((with_reducible refine pws_true ?_ ?_); (· simp; done)))
        refine pws_loop (α := { v : Nat // v ≤ 2 }) (fun v => { n := 83, nx := 5, s := [(35, sint v.1), (6, .ref 4 0), (31, sint k), (30, sint r.fixed.length), (29, .pv (.sl 4 (r.fixed.map Fx.c))), (3, .clos 79 []), (1, .ref 0 0), (4, .ref 2 0)], h := (4, .box (r.fixed[k].c.map .pv)) :: lowH r (T ++ [fixTest r.fixed[k] 0, fixTest r.fixed[k] 1].take v.1), d := [] }) (fun v => 2 - v.1) (fun _ => True) ⟨0, by omega⟩ trivial (ent_sub rfl rfl rfl (by simp [SubL, *]) (by simp [SubL, *]) (by simp) (by simp) (by simp [slotsBelow, SV.lo, belowL]) (by simp [heapBelow, ABlk.lo, SV.lo, belowL, slotsBelow])) ?_
        rintro ⟨v, hv⟩ hov K2 hK2
        have hv3 : v = 0 ∨ v = 1 ∨ v = 2 := by omega
        rcases hv3 with rfl | rfl | rfl
        · repeat' (first | with_reducible refine pws_seq ?_ | with_reducible refine pws_skip ?_ | with_reducible refine pws_block ?_ | ((with_reducible refine pws_regk fun K' S hK' hS => ?_); simp [*]) | ((with_reducible refine Goes.go hK' ?_); clear hK' hS; clear K' S) | ((with_reducible refine pws_true ?_ ?_); (· simp; done)) | with_reducible refine blk_normal ?_ | with_reducible refine thenQ_normal ?_ | with_reducible refine pws_nil ?_)
          refine hK2 _ ⟨1, by omega⟩ (ent_sub rfl rfl rfl (by simp [SubL, *]) (by simp [SubL, fixTest, *]) (by simp) (by simp) (by simp [slotsBelow, SV.lo, belowL]) (by simp [heapBelow, ABlk.lo, SV.lo, belowL, slotsBelow])) trivial (by simp)
        · repeat' (first | with_reducible refine pws_seq ?_ | with_reducible refine pws_skip ?_ | with_reducible refine pws_block ?_ | ((with_reducible refine pws_regk fun K' S hK' hS => ?_); simp [*]) | ((with_reducible refine Goes.go hK' ?_); clear hK' hS; clear K' S) | ((with_reducible refine pws_true ?_ ?_); (· simp; done)) | with_reducible refine blk_normal ?_ | with_reducible refine thenQ_normal ?_ | with_reducible refine pws_nil ?_)
          refine hK2 _ ⟨2, by omega⟩ (ent_sub rfl rfl rfl (by simp [SubL, *]) (by simp [SubL, fixTest, *]) (by simp) (by simp) (by simp [slotsBelow, SV.lo, belowL]) (by simp [heapBelow, ABlk.lo, SV.lo, belowL, slotsBelow])) trivial (by simp)
        · repeat' (first | with_reducible refine pws_seq ?_ | ((with_reducible refine pws_regk fun K' S hK' hS => ?_); simp [*]) | ((with_reducible refine Goes.go hK' ?_); clear hK' hS; clear K' S) | ((with_reducible refine pws_false ?_ ?_); (· simp; done)) | with_reducible refine blk_normal ?_ | with_reducible refine blk_same ?_ | with_reducible refine thenQ_exit ?_ | with_reducible refine thenQ_normal ?_ | with_reducible refine pws_nil ?_ | with_reducible refine pws_exit ?_)
          refine hK _ ⟨k + 1, by omega⟩ (ent_sub rfl rfl rfl (by simp [SubL, *]) (by simp [SubL, hs, *]) (by simp) (by simp) (by simp [slotsBelow, SV.lo, belowL]) (by simp [heapBelow, ABlk.lo, SV.lo, belowL, slotsBelow])) trivial (by simp; omega)
      · have hke : k = r.fixed.length := by omega
        subst hke
        repeat' (first | with_reducible refine pws_seq ?_ | with_reducible refine pws_block ?_ | ((with_reducible refine pws_regk fun K' S hK' hS => ?_); simp [*]) | ((with_reducible refine Goes.go hK' ?_); clear hK' hS; clear K' S) | ((with_reducible refine pws_false ?_ ?_); (· simp; done)) | with_reducible refine blk_normal ?_ | with_reducible refine blk_same ?_ | with_reducible refine thenQ_exit ?_ | with_reducible refine pws_nil ?_ | with_reducible refine pws_exit ?_)
        refine pws_loop (α := { k : Nat // k ≤ r.cols.length }) (fun k => { n := 83, nx := 4, s := [(56, sint k.1), (55, sint r.cols.length), (54, .pv (.sl 1 (ints r.cols))), (3, .clos 79 []), (1, .ref 0 0), (4, .ref 2 0)], h := lowH r (fixT r r.fixed.length ++ colT r k.1), d := [] }) (fun k => r.cols.length - k.1) (fun _ => True) ⟨0, by omega⟩ trivial (ent_sub rfl rfl rfl (by simp [SubL, *]) (by simp [SubL, colT, fixT, *]) (by simp) (by simp) (by simp [slotsBelow, SV.lo, belowL]) (by simp [heapBelow, ABlk.lo, SV.lo, belowL, slotsBelow])) ?_
        rintro ⟨k, hk⟩ hok K hK
        have hlen : (fixT r r.fixed.length ++ colT r k).length ≤ 36 := by
          have := fixT_len r (r.fixed.length)
          have := colT_len r k
          rw [List.length_append]
          omega
        by_cases h1 : k < r.cols.length
        · have hw := wrap64_id (n := (k : Int) + 1) (by omega)
          obtain ⟨T, hT⟩ : ∃ T, T = fixT r r.fixed.length ++ colT r k := ⟨_, rfl⟩
          have he : fixT r r.fixed.length ++ colT r (k + 1) = T ++ [colTest r.cols[k] 1] := by
            rw [colT_succ r k h1, ← List.append_assoc, hT]
          rw [← hT] at hlen
          simp only [← hT]
          clear hT
          have hb1 : (T.length + 1) * 112 ≤ 140737488355328 := fewB _ (by omega)
          repeat' (first | with_reducible refine pws_seq ?_ | with_reducible refine pws_skip ?_ | with_reducible refine pws_block ?_ | ((with_reducible refine pws_regk fun K' S hK' hS => ?_); simp [*]) | ((with_reducible refine Goes.go hK' ?_); clear hK' hS; clear K' S) | ((with_reducible refine pws_true ?_ ?_); (· simp; done)) | with_reducible refine blk_normal ?_ | with_reducible refine thenQ_normal ?_ | with_reducible refine pws_nil ?_ | ((with_reducible refine pws_drawk [4, 5, 6, 8] [0, 1, 2, 3, 4, 5, 6, 7, 8] [] ?_ fun K' S hK' hS => ?_); (· decide +kernel); simp [*]) | ((with_reducible refine GoesD.go hS ?_); clear hK' hS; clear K' S) | ((with_reducible refine pwd_callk (eff := [4, 5, 6, 8]) (i := 4) (c := [3, 2, 1, 0]) (c' := [1, 0]) (o := ?_) (cl := ?_) (x := ?_) (f := ?_) (svs := ?_) (cs := ?_) (Qr := ?_) true ?_ ?_ ?_ ?_ ?_ ?_ ?_ ?_ ?_ ?_ ?_ ?_ ?_); rotate_left 7; (· rfl); (· rfl); (· (simp [*]; done)); (· (simp [*]; done)); (· decide +kernel); (· rfl); (· rfl); (· (simp; with_reducible rfl)); (· (simp; with_reducible rfl)); (· first | (simp [bors, bor]; with_reducible rfl) | (simp [bors, bor, *]; with_reducible rfl)); (· rfl); (· ((with_reducible refine lower1_ok _ _))); (rintro sv hsv hsc; clear hsc; obtain rfl := hsv; refine ⟨(by first | (intro _; rfl) | (intro h; cases h)), ?_⟩; refine pwd_runk fun K' S hK' hS => ?_; simp [*])) | ((with_reducible refine pwd_step2 (eff := [4, 5, 6, 8]) (i := 5) (c := [1, 0]) (c' := [1, 0]) (o := ?_) (st' := ?_) ?_ ?_ ?_ ?_ ?_ ?_ ?_); rotate_left 2; (· rfl); (· rfl); (· (simp [*]; done)); (· (simp [*]; done)); (· decide +kernel); (· (simp [*]; with_reducible rfl)); refine pwd_runk fun K' S hK' hS => ?_; simp [*]) | ((with_reducible refine pwd_step2 (eff := [4, 5, 6, 8]) (i := 6) (c := [1, 0]) (c' := []) (o := ?_) (st' := ?_) ?_ ?_ ?_ ?_ ?_ ?_ ?_); rotate_left 2; (· rfl); (· rfl); (· (simp [*]; done)); (· (simp [*]; done)); (· decide +kernel); (· (simp [*]; with_reducible rfl)); refine pwd_runk fun K' S hK' hS => ?_; simp [*]) | ((with_reducible refine pwd_step2 (eff := [4, 5, 6, 8]) (i := 8) (c := [7]) (c' := []) (o := ?_) (st' := ?_) ?_ ?_ ?_ ?_ ?_ ?_ ?_); rotate_left 2; (· rfl); (· rfl); (· (simp [*]; done)); (· (simp [*]; done)); (· decide +kernel); (· (simp [*]; with_reducible rfl)); refine pwd_runk fun K' S hK' hS => ?_; simp [*]))
          refine hK _ ⟨k + 1, by omega⟩ (ent_sub rfl rfl rfl (by simp [SubL, *]) (by simp [SubL, he, *]) (by simp) (by simp) (by simp [slotsBelow, SV.lo, belowL]) (by simp [heapBelow, ABlk.lo, SV.lo, belowL, slotsBelow])) trivial (by simp; omega)
        · have hke : k = r.cols.length := by omega
          subst hke
          obtain ⟨T, hT⟩ : ∃ T, T = fixT r r.fixed.length ++ colT r r.cols.length := ⟨_, rfl⟩
          rw [← hT] at hlen
          simp only [← hT]
          have hb1 : (T.length + 1) * 112 ≤ 140737488355328 := fewB _ (by omega)
          have hlow : lower r = [⟨4, r.name, 0, [], 0, [], 0, 0, [r.table, r.table], T ++ [colTest r.col 2]⟩] := by
            simp [lower, lowTests, hT, colT_all, fixT_all, fixT, *]
          clear hT
          repeat' (first | with_reducible refine pws_seq ?_ | ((with_reducible refine pws_regk fun K' S hK' hS => ?_); simp [*]) | ((with_reducible refine Goes.go hK' ?_); clear hK' hS; clear K' S) | ((with_reducible refine GoesS.go hS ?_); clear hK' hS; clear K' S) | ((with_reducible refine pws_true ?_ ?_); (· simp; done)) | ((with_reducible refine pws_false ?_ ?_); (· simp; done)) | with_reducible refine blk_same ?_ | with_reducible refine thenQ_exit ?_ | with_reducible refine pws_exit ?_ | ((with_reducible refine pws_drawk [5, 6, 7, 9] [0, 1, 2, 3, 4, 5, 6, 7, 8, 9] [] ?_ fun K' S hK' hS => ?_); (· decide +kernel); simp [*]) | ((with_reducible refine GoesD.go hS ?_); clear hK' hS; clear K' S) | ((with_reducible refine pwd_callk (eff := [5, 6, 7, 9]) (i := 5) (c := [4, 3, 2, 1, 0]) (c' := [1, 0]) (o := ?_) (cl := ?_) (x := ?_) (f := ?_) (svs := ?_) (cs := ?_) (Qr := ?_) true ?_ ?_ ?_ ?_ ?_ ?_ ?_ ?_ ?_ ?_ ?_ ?_ ?_); rotate_left 7; (· rfl); (· rfl); (· (simp [*]; done)); (· (simp [*]; done)); (· decide +kernel); (· rfl); (· rfl); (· (simp; with_reducible rfl)); (· (simp; with_reducible rfl)); (· first | (simp [bors, bor]; with_reducible rfl) | (simp [bors, bor, *]; with_reducible rfl)); (· rfl); (· ((with_reducible refine lower1_ok _ _))); (rintro sv hsv hsc; clear hsc; obtain rfl := hsv; refine ⟨(by first | (intro _; rfl) | (intro h; cases h)), ?_⟩; refine pwd_runk fun K' S hK' hS => ?_; simp [*])) | ((with_reducible refine pwd_step2 (eff := [5, 6, 7, 9]) (i := 6) (c := [1, 0]) (c' := [1, 0]) (o := ?_) (st' := ?_) ?_ ?_ ?_ ?_ ?_ ?_ ?_); rotate_left 2; (· rfl); (· rfl); (· (simp [*]; done)); (· (simp [*]; done)); (· decide +kernel); (· (simp [*]; with_reducible rfl)); refine pwd_runk fun K' S hK' hS => ?_; simp [*]) | ((with_reducible refine pwd_step2 (eff := [5, 6, 7, 9]) (i := 7) (c := [1, 0]) (c' := []) (o := ?_) (st' := ?_) ?_ ?_ ?_ ?_ ?_ ?_ ?_); rotate_left 2; (· rfl); (· rfl); (· (simp [*]; done)); (· (simp [*]; done)); (· decide +kernel); (· (simp [*]; with_reducible rfl)); refine pwd_runk fun K' S hK' hS => ?_; simp [*]) | ((with_reducible refine pwd_step2 (eff := [5, 6, 7, 9]) (i := 9) (c := [8]) (c' := []) (o := ?_) (st' := ?_) ?_ ?_ ?_ ?_ ?_ ?_ ?_); rotate_left 2; (· rfl); (· rfl); (· (simp [*]; done)); (· (simp [*]; done)); (· decide +kernel); (· (simp [*]; with_reducible rfl)); refine pwd_runk fun K' S hK' hS => ?_; simp [*]))
          refine ent_frzs' [.loc 12 3 0 0 0] ?_
          refine pwl_runk fun K' S hK' hS => ?_
          simp [*]
          repeat' (first | ((with_reducible refine Goes.go hK' ?_); clear hK' hS; clear K' S) | with_reducible refine pws_ret ?_)
          refine finC_ret (vs := ?_) [.loc 10 5 0 0 1] (.inr rfl) rfl ?_ ?_ ?_
          rotate_left
          · simp [Tryz.results26, resL, resOf]; rfl
          · simp [wrapRes, cv, SV.const]
          · rw [hlow]
            simp [wrapRes, cv]
            (repeat' (first | refine SLe.pv (PLe.ofs ?_ (by simp)) | exact PLs.nil | refine PLs.cons ?_ ?_ | with_reducible exact PLe.refl _ | exact PLe.nil _ | exact PLss.nil | refine PLss.cons ?_ ?_))
    · by_cases hk1 : r.kind = 1
      · repeat' (first | with_reducible refine pws_seq ?_ | with_reducible refine pws_skip ?_ | with_reducible refine pws_block ?_ | ((with_reducible refine pws_regk fun K' S hK' hS => ?_); simp [argSlots, *]) | ((with_reducible refine Goes.go hK' ?_); clear hK' hS; clear K' S) | ((with_reducible refine pws_true ?_ ?_); (· simp; done)) | ((with_reducible refine pws_false ?_ ?_); (· simp; done)) | with_reducible refine blk_normal ?_ | with_reducible refine pws_nil ?_)
        refine pws_ent (ent_adopt (b := 2) (j := 9) (t := 121) (es := 12) rfl rfl (by decide)) ?_
        refine pws_loop (α := { k : Nat // k ≤ r.cols.length }) (fun k => { n := 83, nx := 4, s := [(56, sint k.1), (55, sint r.cols.length), (54, .pv (.sl 1 (ints r.cols))), (3, .clos 79 []), (1, .ref 0 0), (4, .ref 2 0)], h := lowH r (fixT r 0 ++ colT r k.1), d := [] }) (fun k => r.cols.length - k.1) (fun _ => True) ⟨0, by omega⟩ trivial (ent_sub rfl rfl rfl (by simp [SubL, *]) (by simp [SubL, colT, fixT, *]) (by simp) (by simp) (by simp [slotsBelow, SV.lo, belowL]) (by simp [heapBelow, ABlk.lo, SV.lo, belowL, slotsBelow])) ?_
        rintro ⟨k, hk⟩ hok K hK
        have hlen : (fixT r 0 ++ colT r k).length ≤ 36 := by
          have := fixT_len r (0)
          have := colT_len r k
          rw [List.length_append]
          omega
        by_cases h1 : k < r.cols.length
        · have hw := wrap64_id (n := (k : Int) + 1) (by omega)
          obtain ⟨T, hT⟩ : ∃ T, T = fixT r 0 ++ colT r k := ⟨_, rfl⟩
          have he : fixT r 0 ++ colT r (k + 1) = T ++ [colTest r.cols[k] 1] := by
            rw [colT_succ r k h1, ← List.append_assoc, hT]
          rw [← hT] at hlen
          simp only [← hT]
          clear hT
          have hb1 : (T.length + 1) * 112 ≤ 140737488355328 := fewB _ (by omega)
          repeat' (first | with_reducible refine pws_seq ?_ | with_reducible refine pws_skip ?_ | with_reducible refine pws_block ?_ | ((with_reducible refine pws_regk fun K' S hK' hS => ?_); simp [*]) | ((with_reducible refine Goes.go hK' ?_); clear hK' hS; clear K' S) | ((with_reducible refine pws_true ?_ ?_); (· simp; done)) | with_reducible refine blk_normal ?_ | with_reducible refine thenQ_normal ?_ | with_reducible refine pws_nil ?_ | ((with_reducible refine pws_drawk [4, 5, 6, 8] [0, 1, 2, 3, 4, 5, 6, 7, 8] [] ?_ fun K' S hK' hS => ?_); (· decide +kernel); simp [*]) | ((with_reducible refine GoesD.go hS ?_); clear hK' hS; clear K' S) | ((with_reducible refine pwd_callk (eff := [4, 5, 6, 8]) (i := 4) (c := [3, 2, 1, 0]) (c' := [1, 0]) (o := ?_) (cl := ?_) (x := ?_) (f := ?_) (svs := ?_) (cs := ?_) (Qr := ?_) true ?_ ?_ ?_ ?_ ?_ ?_ ?_ ?_ ?_ ?_ ?_ ?_ ?_); rotate_left 7; (· rfl); (· rfl); (· (simp [*]; done)); (· (simp [*]; done)); (· decide +kernel); (· rfl); (· rfl); (· (simp; with_reducible rfl)); (· (simp; with_reducible rfl)); (· first | (simp [bors, bor]; with_reducible rfl) | (simp [bors, bor, *]; with_reducible rfl)); (· rfl); (· ((with_reducible refine lower1_ok _ _))); (rintro sv hsv hsc; clear hsc; obtain rfl := hsv; refine ⟨(by first | (intro _; rfl) | (intro h; cases h)), ?_⟩; refine pwd_runk fun K' S hK' hS => ?_; simp [*])) | ((with_reducible refine pwd_step2 (eff := [4, 5, 6, 8]) (i := 5) (c := [1, 0]) (c' := [1, 0]) (o := ?_) (st' := ?_) ?_ ?_ ?_ ?_ ?_ ?_ ?_); rotate_left 2; (· rfl); (· rfl); (· (simp [*]; done)); (· (simp [*]; done)); (· decide +kernel); (· (simp [*]; with_reducible rfl)); refine pwd_runk fun K' S hK' hS => ?_; simp [*]) | ((with_reducible refine pwd_step2 (eff := [4, 5, 6, 8]) (i := 6) (c := [1, 0]) (c' := []) (o := ?_) (st' := ?_) ?_ ?_ ?_ ?_ ?_ ?_ ?_); rotate_left 2; (· rfl); (· rfl); (· (simp [*]; done)); (· (simp [*]; done)); (· decide +kernel); (· (simp [*]; with_reducible rfl)); refine pwd_runk fun K' S hK' hS => ?_; simp [*]) | ((with_reducible refine pwd_step2 (eff := [4, 5, 6, 8]) (i := 8) (c := [7]) (c' := []) (o := ?_) (st' := ?_) ?_ ?_ ?_ ?_ ?_ ?_ ?_); rotate_left 2; (· rfl); (· rfl); (· (simp [*]; done)); (· (simp [*]; done)); (· decide +kernel); (· (simp [*]; with_reducible rfl)); refine pwd_runk fun K' S hK' hS => ?_; simp [*]))
          refine hK _ ⟨k + 1, by omega⟩ (ent_sub rfl rfl rfl (by simp [SubL, *]) (by simp [SubL, he, *]) (by simp) (by simp) (by simp [slotsBelow, SV.lo, belowL]) (by simp [heapBelow, ABlk.lo, SV.lo, belowL, slotsBelow])) trivial (by simp; omega)
        · have hke : k = r.cols.length := by omega
          subst hke
          obtain ⟨T, hT⟩ : ∃ T, T = fixT r 0 ++ colT r r.cols.length := ⟨_, rfl⟩
          rw [← hT] at hlen
          simp only [← hT]
          have hb1 : (T.length + 1) * 112 ≤ 140737488355328 := fewB _ (by omega)
          have hlow : lower r = [⟨4, r.name, 0, [], 0, [], 0, 0, [r.table, r.table], T⟩] := by
            simp [lower, lowTests, hT, colT_all, fixT_all, fixT, *]
          clear hT
          repeat' (first | with_reducible refine pws_seq ?_ | with_reducible refine pws_skip ?_ | ((with_reducible refine pws_regk fun K' S hK' hS => ?_); simp [*]) | ((with_reducible refine Goes.go hK' ?_); clear hK' hS; clear K' S) | ((with_reducible refine GoesS.go hS ?_); clear hK' hS; clear K' S) | ((with_reducible refine pws_false ?_ ?_); (· simp; done)) | with_reducible refine blk_same ?_ | with_reducible refine thenQ_exit ?_ | with_reducible refine pws_exit ?_)
          refine ent_frzs' [.loc 12 3 0 0 0] ?_
          refine pwl_runk fun K' S hK' hS => ?_
          simp [*]
          repeat' (first | ((with_reducible refine Goes.go hK' ?_); clear hK' hS; clear K' S) | with_reducible refine pws_ret ?_)
          refine finC_ret (vs := ?_) [.loc 10 4 0 0 1] (.inr rfl) rfl ?_ ?_ ?_
          rotate_left
          · simp [Tryz.results26, resL, resOf]; rfl
          · simp [wrapRes, cv, SV.const]
          · rw [hlow]
            simp [wrapRes, cv]
            (repeat' (first | refine SLe.pv (PLe.ofs ?_ (by simp)) | exact PLs.nil | refine PLs.cons ?_ ?_ | with_reducible exact PLe.refl _ | exact PLe.nil _ | exact PLss.nil | refine PLss.cons ?_ ?_))
      · have hlow : lower r = [] := by simp [lower, h4, h2, hk1]
        repeat' (first | with_reducible refine pws_seq ?_ | with_reducible refine pws_block ?_ | ((with_reducible refine pws_regk fun K' S hK' hS => ?_); simp [argSlots, *]) | ((with_reducible refine Goes.go hK' ?_); clear hK' hS; clear K' S) | ((with_reducible refine pws_false ?_ ?_); (· simp; done)) | with_reducible refine pws_ret ?_ | with_reducible refine blk_ret ?_)
        refine finC_ret (vs := ?_) [] (.inr rfl) rfl ?_ ?_ ?_
        rotate_left
        · simp [Tryz.results26, resL, resOf]; rfl
        · simp [wrapRes, cv, SV.const]
        · rw [hlow]
          simp [wrapRes, cv]
          exact SLe.pv (PLe.nil _)
end
section
attribute [local simp] V.c V.z Sd.c Tst.c Fx.c Rl.c Fc.c Gr.c wrap1f take_map_len take_map_len1 wrap1 wrap2 wrap3
theorem allI_get (n k : Nat) (h : k < n) : (allI n)[k]? = some (k : Int) := by
  unfold allI
  simp [h]
/-- The array while it is filled. -/
def fillI (n k : Nat) : List Int := allI k ++ List.replicate (n - k) 0
theorem fillI_len {n k : Nat} (h : k ≤ n) : (fillI n k).length = n := by simp [fillI, allI]; omega
theorem fillI_succ {n k : Nat} (h : k < n) : fillI n (k + 1) = (fillI n k).set k (k : Int) := by
  refine List.ext_getElem? fun j => ?_
  by_cases e : j = k
  · subst e
    rw [List.getElem?_set_self (by rw [fillI_len (by omega)]; exact h)]
    unfold fillI
    rw [List.getElem?_append_left (by simp [allI]), allI_get _ _ (by omega)]
  · rw [List.getElem?_set_ne (fun h => e h.symm)]
    unfold fillI
    by_cases h1 : j < k
    · rw [List.getElem?_append_left (by simp [allI]; omega), List.getElem?_append_left (by simp [allI]; omega), allI_get _ _ (by omega), allI_get _ _ h1]
    · rw [List.getElem?_append_right (by simp [allI]; omega), List.getElem?_append_right (by simp [allI]; omega)]
      simp only [allI, List.length_map, List.length_range, List.getElem?_replicate]
      by_cases h2 : j < n
      · rw [if_pos (by omega), if_pos (by omega)]
      · rw [if_neg (by omega), if_neg (by omega)]
theorem fillI_zero (n : Nat) : fillI n 0 = List.replicate n 0 := by simp [fillI, allI]
theorem fillI_end (n : Nat) : fillI n n = allI n := by simp [fillI]
theorem ints_set (l : List Int) (k : Nat) (x : Int) : ints (l.set k x) = (ints l).set k [pint x] := by simp
theorem all_ok (F : List Fc) (hF : F.length ≤ 100000) : CC Tryz.prog 83 [.pv (.sl 6 (pfacts F))] (fun sv => sv = .pv (.sl 1 (ints (allI F.length)))) := by
  refine CC.res ?_
  refine cc_of_pw Tryz.func83 rfl enters83 Tryz.ntmps83 (by simp) (pw_of_pws ?_)
  have hb0 : 8 * F.length ≤ 281474976710656 := by omega
  have hz := fillI_zero F.length
  repeat' (first | with_reducible refine pws_seq ?_ | with_reducible refine pws_block ?_ | ((with_reducible refine pws_regk fun K' S hK' hS => ?_); simp [argSlots, *]) | ((with_reducible refine Goes.go hK' ?_); clear hK' hS; clear K' S))
  refine pws_loop (α := { k : Nat // k ≤ F.length }) (fun k => { n := 19, nx := 1, s := [(10, sint k.1), (9, sint F.length), (3, .loc 1 0 0 0 F.length)], h := [(0, .arr 3 1 0 false (ints (fillI F.length k.1)))], d := [] }) (fun k => F.length - k.1) (fun k => True) ⟨0, by omega⟩ trivial (ent_sub rfl rfl rfl (by simp [SubL, *]) (by simp [SubL, *]) (by simp) (by simp) (by simp [slotsBelow, SV.lo, belowL]) (by simp [heapBelow, ABlk.lo, SV.lo, belowL, slotsBelow])) ?_
  rintro ⟨k, hk⟩ _ K hK
  have hfl := fillI_len hk
  by_cases h1 : k < F.length
  · have hw := wrap64_id (n := (k : Int) + 1) (by omega)
    have hs := ints_set (fillI F.length k) k k
    rw [← fillI_succ h1] at hs
    have hkl : k < (fillI F.length k).length := by omega
    clear hz
    generalize fillI F.length k = G at *
    repeat' (first | with_reducible refine pws_seq ?_ | with_reducible refine pws_skip ?_ | with_reducible refine pws_block ?_ | ((with_reducible refine pws_regk fun K' S hK' hS => ?_); simp [argSlots, *]) | ((with_reducible refine Goes.go hK' ?_); clear hK' hS; clear K' S) | ((with_reducible refine pws_true ?_ ?_); (· simp; done)) | with_reducible refine blk_normal ?_ | with_reducible refine thenQ_normal ?_ | with_reducible refine pws_nil ?_)
    refine hK _ ⟨k + 1, by omega⟩ (ent_sub rfl rfl rfl (by simp [SubL, *]) (by simp [SubL, *]) (by simp) (by simp) (by simp [slotsBelow, SV.lo, belowL]) (by simp [heapBelow, ABlk.lo, SV.lo, belowL, slotsBelow])) trivial (by simp; omega)
  · obtain rfl : k = F.length := by omega
    clear hK hz
    have he := fillI_end F.length
    rw [he] at hfl ⊢
    have htk : List.take F.length (ints (allI F.length)) = ints (allI F.length) := List.take_of_length_le (by simp [hfl])
    repeat' (first | with_reducible refine pws_seq ?_ | ((with_reducible refine pws_regk fun K' S hK' hS => ?_); simp [argSlots, *]) | ((with_reducible refine Goes.go hK' ?_); clear hK' hS; clear K' S) | ((with_reducible refine pws_false ?_ ?_); (· simp; done)) | with_reducible refine pws_ret ?_ | with_reducible refine blk_same ?_ | with_reducible refine thenQ_exit ?_ | with_reducible refine pws_exit ?_)
    refine finC_ret (vs := ?_) [.loc 1 0 0 0 F.length] (.inr rfl) rfl ?_ ?_ ?_
    rotate_left
    · simp [Tryz.results83, resL, resOf]; rfl
    · simp [wrapRes, cv, SV.const, hfl]
    · simp [wrapRes, cv, hfl, htk]
      (repeat' (first | with_reducible exact SLe.refl _))
end
section
attribute [local simp] V.c V.z Sd.c Tst.c Fx.c Rl.c Fc.c Gr.c wrap1f take_map_len take_map_len1 wrap1 wrap2 wrap3
theorem lower_len (r : Rl) : (lower r).length ≤ 1 := by
  rcases lower_cases r with h | ⟨d, h⟩ <;> simp [h]
def denAt (R : List Rl) (k m : Nat) : List Rl := denials (R.take k) ++ ((lower ((R[k]?).getD ⟨0, ⟨#[]⟩, 0, [], 0, [], 0, 0, [], []⟩)).take m).filter small3
theorem denials_len (R : List Rl) : (denials R).length ≤ R.length := by
  induction R with
  | nil => simp [denials]
  | cons r R ih =>
    have h1 := lower_len r
    have h2 := List.length_filter_le small3 (lower r)
    unfold denials at ih ⊢
    rw [List.flatMap_cons, List.length_append, List.length_cons]
    omega
theorem denials_succ {R : List Rl} {k : Nat} (h : k < R.length) : denials (R.take (k + 1)) = denials (R.take k) ++ (lower R[k]).filter small3 := by
  unfold denials
  rw [List.take_succ_eq_append_getElem h, List.flatMap_append]
  simp
theorem denAt_zero (R : List Rl) (k : Nat) : denAt R k 0 = denials (R.take k) := by simp [denAt]
theorem denAt_all {R : List Rl} {k : Nat} (h : k < R.length) : denAt R k (lower R[k]).length = denials (R.take (k + 1)) := by
  rw [denials_succ h]
  unfold denAt
  rw [List.getElem?_eq_getElem h, Option.getD_some, List.take_length]
theorem denAt_succ {R : List Rl} {k m : Nat} (h : k < R.length) (hm : m < (lower R[k]).length) : denAt R k (m + 1) = if small3 (lower R[k])[m] then denAt R k m ++ [(lower R[k])[m]] else denAt R k m := by
  unfold denAt
  rw [List.getElem?_eq_getElem h, Option.getD_some, List.take_succ_eq_append_getElem hm, List.filter_append, ← List.append_assoc]
  cases hs : small3 (lower R[k])[m] <;> simp [hs]
theorem denAt_len {R : List Rl} {k m : Nat} (h : k ≤ R.length) : (denAt R k m).length ≤ R.length + 1 := by
  unfold denAt
  have h1 := denials_len (R.take k)
  have h2 := lower_len ((R[k]?).getD ⟨0, ⟨#[]⟩, 0, [], 0, [], 0, 0, [], []⟩)
  have h3 := List.length_filter_le small3 ((lower ((R[k]?).getD ⟨0, ⟨#[]⟩, 0, [], 0, [], 0, 0, [], []⟩)).take m)
  simp at h1 h3 ⊢
  omega
theorem lowered_ok (R : List Rl) (hR : OkR R) (hl : R.length ≤ 1000) : CC Tryz.prog 145 [.pv (.sl 10 (prules R))] (fun sv => sv = .pv (.sl 10 (prules (denials R)))) := by
  refine CC.res ?_
  refine cc_of_pw Tryz.func145 rfl enters145 Tryz.ntmps145 (by simp) (pw_of_pws ?_)
  repeat' (first | with_reducible refine pws_seq ?_ | with_reducible refine pws_block ?_ | ((with_reducible refine pws_regk fun K' S hK' hS => ?_); simp [argSlots, *]) | ((with_reducible refine Goes.go hK' ?_); clear hK' hS; clear K' S))
  refine pws_ent (ent_adopts (v := 3) (t := 32) (es := 10) rfl (by decide)) ?_
  refine pws_loop (α := { q : Nat × Nat // q.1 ≤ R.length }) (fun q => { n := 38, nx := 1, s := [(11, sint q.1.1), (10, sint R.length), (9, .pv (.sl 10 (prules R))), (3, .loc 10 0 q.1.2 0 (denials (R.take q.1.1)).length)], h := [(0, .arr 32 10 q.1.2 false (prules (denials (R.take q.1.1))))], d := [] }) (fun q => R.length - q.1.1) (fun k => True) ⟨(0, 0), by omega⟩ trivial (ent_sub rfl rfl rfl (by simp [SubL, denials, *]) (by simp [SubL, denials, *]) (by simp) (by simp) (by simp [slotsBelow, SV.lo, belowL]) (by simp [heapBelow, ABlk.lo, SV.lo, belowL, slotsBelow])) ?_
  rintro ⟨⟨k, g⟩, hk⟩ _ K hK
  simp only at hk
  by_cases h1 : k < R.length
  · have hw := wrap64_id (n := (k : Int) + 1) (by omega)
    obtain ⟨o1, o2, o3, o4⟩ := hR _ (List.getElem_mem h1)
    have hlw := dLower_ok R[k] o1 o2
    have hz := denAt_zero R k
    have hal := denAt_all h1
    have hll := lower_len R[k]
    rw [← hz]
    repeat' (first | with_reducible refine pws_seq ?_ | with_reducible refine pws_skip ?_ | with_reducible refine pws_block ?_ | ((with_reducible refine pws_regk fun K' S hK' hS => ?_); simp [argSlots, *]) | ((with_reducible refine Goes.go hK' ?_); clear hK' hS; clear K' S) | ((with_reducible refine GoesS.go hS ?_); clear hK' hS; clear K' S) | ((with_reducible refine pws_true ?_ ?_); (· simp; done)) | ((with_reducible refine pwl_callk (c := ?_) (x := ?_) (f := ?_) (svs := ?_) (cs := ?_) (Qr := ?_) false ?_ ?_ ?_ ?_ ?_ ?_ ?_ ?_ ?_); rotate_left 6; (· (simp [argSlots, *]; done)); (· rfl); (· rfl); (· (simp; with_reducible rfl)); (· (simp; with_reducible rfl)); (· first | (simp [bors, bor]; with_reducible rfl) | (simp [bors, bor, *]; with_reducible rfl)); (· rfl); (· ((with_reducible refine hlw))); (rintro sv hsv hsc; clear hsc; obtain rfl := hsv; refine ⟨(by first | (intro _; rfl) | (intro h; cases h)), ?_⟩; refine pwl_runk fun K' S hK' hS => ?_; simp [argSlots, *])))
    refine pws_loop (α := { q : Nat × Nat // q.1 ≤ (lower R[k]).length }) (fun q => { n := 38, nx := 1, s := [(18, sint q.1.1), (17, sint (lower R[k]).length), (16, .pv (.sl 10 (prules (lower R[k])))), (11, sint k), (10, sint R.length), (9, .pv (.sl 10 (prules R))), (3, .loc 10 0 q.1.2 0 (denAt R k q.1.1).length)], h := [(0, .arr 32 10 q.1.2 false (prules (denAt R k q.1.1)))], d := [] }) (fun q => (lower R[k]).length - q.1.1) (fun k => True) ⟨(0, g), by omega⟩ trivial (ent_sub rfl rfl rfl (by simp [SubL, *]) (by simp [SubL, *]) (by simp) (by simp) (by simp [slotsBelow, SV.lo, belowL]) (by simp [heapBelow, ABlk.lo, SV.lo, belowL, slotsBelow])) ?_
    rintro ⟨⟨m, g⟩, hm⟩ _ K2 hK2
    simp only at hm
    have hdl := denAt_len (R := R) (k := k) (m := m) (by omega)
    by_cases h2 : m < (lower R[k]).length
    · have hw2 := wrap64_id (n := (m : Int) + 1) (by omega)
      have hsc := denAt_succ h1 h2
      have hb1 : ((denAt R k m).length + 1) * 152 ≤ 140737488355328 := by omega
      clear hal hz hK hll
      by_cases c1 : 0 < (lower R[k])[m].tables.length
      · have c1i : (0 : Int) < (lower R[k])[m].tables.length := by omega
        by_cases c2 : (lower R[k])[m].tables.length ≤ 3
        · have c2i : ((lower R[k])[m].tables.length : Int) ≤ 3 := by omega
          have hsm : small3 (lower R[k])[m] = true := by simp [small3, c2]; omega
          rw [hsm] at hsc
          simp only [if_true] at hsc
          clear hsm
          generalize denAt R k m = G at *
          repeat' (first | with_reducible refine pws_seq ?_ | with_reducible refine pws_skip ?_ | with_reducible refine pws_block ?_ | ((with_reducible refine pws_regk fun K' S hK' hS => ?_); simp [argSlots, *]) | ((with_reducible refine Goes.go hK' ?_); clear hK' hS; clear K' S) | ((with_reducible refine pws_true ?_ ?_); (· simp; done)) | with_reducible refine blk_normal ?_ | with_reducible refine thenQ_normal ?_ | with_reducible refine pws_nil ?_)
          refine hK2 _ ⟨(m + 1, g + 1), by simp; omega⟩ (ent_sub rfl rfl rfl (by simp [SubL, *]) (by simp [SubL, *]) (by simp) (by simp) (by simp [slotsBelow, SV.lo, belowL]) (by simp [heapBelow, ABlk.lo, SV.lo, belowL, slotsBelow])) trivial (by simp; omega)
        · have c2i : ¬ ((lower R[k])[m].tables.length : Int) ≤ 3 := by omega
          have hsm : small3 (lower R[k])[m] = false := by simp [small3]; omega
          rw [hsm] at hsc
          simp at hsc
          clear hsm
          generalize denAt R k m = G at *
          repeat' (first | with_reducible refine pws_seq ?_ | with_reducible refine pws_skip ?_ | with_reducible refine pws_block ?_ | ((with_reducible refine pws_regk fun K' S hK' hS => ?_); simp [argSlots, *]) | ((with_reducible refine Goes.go hK' ?_); clear hK' hS; clear K' S) | ((with_reducible refine pws_true ?_ ?_); (· simp; done)) | ((with_reducible refine pws_false ?_ ?_); (· simp; done)) | with_reducible refine blk_normal ?_ | with_reducible refine thenQ_normal ?_ | with_reducible refine pws_nil ?_)
          refine hK2 _ ⟨(m + 1, g), by simp; omega⟩ (ent_sub rfl rfl rfl (by simp [SubL, *]) (by simp [SubL, *]) (by simp) (by simp) (by simp [slotsBelow, SV.lo, belowL]) (by simp [heapBelow, ABlk.lo, SV.lo, belowL, slotsBelow])) trivial (by simp; omega)
      · have c1i : ¬ (0 : Int) < (lower R[k])[m].tables.length := by omega
        have hsm : small3 (lower R[k])[m] = false := by simp [small3]; omega
        rw [hsm] at hsc
        simp at hsc
        clear hsm
        generalize denAt R k m = G at *
        repeat' (first | with_reducible refine pws_seq ?_ | with_reducible refine pws_skip ?_ | with_reducible refine pws_block ?_ | ((with_reducible refine pws_regk fun K' S hK' hS => ?_); simp [argSlots, *]) | ((with_reducible refine Goes.go hK' ?_); clear hK' hS; clear K' S) | ((with_reducible refine pws_true ?_ ?_); (· simp; done)) | ((with_reducible refine pws_false ?_ ?_); (· simp; done)) | with_reducible refine blk_normal ?_ | with_reducible refine thenQ_normal ?_ | with_reducible refine pws_nil ?_)
        refine hK2 _ ⟨(m + 1, g), by simp; omega⟩ (ent_sub rfl rfl rfl (by simp [SubL, *]) (by simp [SubL, *]) (by simp) (by simp) (by simp [slotsBelow, SV.lo, belowL]) (by simp [heapBelow, ABlk.lo, SV.lo, belowL, slotsBelow])) trivial (by simp; omega)
    · obtain rfl : m = (lower R[k]).length := by omega
      clear hK2 hz
      rw [hal]
      repeat' (first | with_reducible refine pws_seq ?_ | ((with_reducible refine pws_regk fun K' S hK' hS => ?_); simp [argSlots, *]) | ((with_reducible refine Goes.go hK' ?_); clear hK' hS; clear K' S) | ((with_reducible refine pws_false ?_ ?_); (· simp; done)) | with_reducible refine blk_normal ?_ | with_reducible refine blk_same ?_ | with_reducible refine thenQ_exit ?_ | with_reducible refine thenQ_normal ?_ | with_reducible refine pws_nil ?_ | with_reducible refine pws_exit ?_)
      refine hK _ ⟨(k + 1, g), by simp; omega⟩ (ent_sub rfl rfl rfl (by simp [SubL, *]) (by simp [SubL, *]) (by simp) (by simp) (by simp [slotsBelow, SV.lo, belowL]) (by simp [heapBelow, ABlk.lo, SV.lo, belowL, slotsBelow])) trivial (by simp; omega)
  · obtain rfl : k = R.length := by omega
    clear hK
    rw [List.take_length]
    repeat' (first | with_reducible refine pws_seq ?_ | ((with_reducible refine pws_regk fun K' S hK' hS => ?_); simp [argSlots, *]) | ((with_reducible refine Goes.go hK' ?_); clear hK' hS; clear K' S) | ((with_reducible refine pws_false ?_ ?_); (· simp; done)) | with_reducible refine pws_ret ?_ | with_reducible refine blk_same ?_ | with_reducible refine thenQ_exit ?_ | with_reducible refine pws_exit ?_)
    refine finC_ret (vs := ?_) [.loc 10 0 g 0 (denials R).length] (.inr rfl) rfl ?_ ?_ ?_
    rotate_left
    · simp [Tryz.results145, resL, resOf]; rfl
    · simp [wrapRes, cv, SV.const]
    · simp [wrapRes, cv]
      (repeat' (first | with_reducible exact SLe.refl _))
end
section
attribute [local simp] V.c V.z Sd.c Tst.c Fx.c Rl.c Fc.c Gr.c wrap1f take_map_len take_map_len1 wrap1 wrap2 wrap3
abbrev H4 (n : Int) (F : List Fc) (a : List Int) (lat : Bool) : List (Nat × ABlk) := [(4, .box [sbool lat]), (3, .box [.pv (.sl 1 (ints a))]), (2, .box [.pv (.sl 6 (pfacts F))]), (1, .box [sint n])]
theorem sideD_ok (s : Sd) (n : Int) (F : List Fc) (a : List Int) (lat : Bool) (nx : Nat) (ha : Rng F a) (hnx : 5 ≤ nx) :
    PC Tryz.prog 257 (.agg s.c :: capRefs [(1, 0), (3, 0), (4, 0), (2, 0)]) nx (H4 n F a lat) (fun sv nx' H' => sv = sideRes (sideO s n F a) ∧ H' = H4 n F a (lat || sideL s n a)) := by
  have hx0 : ¬ nx = 0 := by omega
  have hx1 : ¬ nx = 1 := by omega
  have hx2 : ¬ nx = 2 := by omega
  have hx3 : ¬ nx = 3 := by omega
  have hx4 : ¬ nx = 4 := by omega
  refine PC.drop (Q := fun sv nx' H' => sv = sideRes (sideO s n F a) ∧ ∃ x y, H' = (nx + 1, x) :: (nx, y) :: H4 n F a (lat || sideL s n a)) ?_ ?_
  rotate_left
  · rintro sv nx' H2 ⟨h1, x, y, rfl⟩
    exact ⟨_, ⟨h1, rfl⟩, (fun i b h => by simp only [List.cons_append, List.nil_append, lk] at h ⊢; (repeat' split at h) <;> (try subst_vars) <;> first | (simp_all; done) | (simp_all; omega) | (exfalso; omega))⟩
  refine pc_of_pw' (fn := Tryz.f257) Tryz.func257 rfl enters257 Tryz.ntmps257 (by simp [capRefs]) (pw_of_pws ?_)
  by_cases h1 : s.var = -1
  · have hs : sideO s n F a = some s.v := by simp [sideO, h1]
    have hl : sideL s n a = false := by simp [sideL, h1]
    repeat' (first | with_reducible refine pws_seq ?_ | with_reducible refine pws_block ?_ | ((with_reducible refine pws_regk fun K' S hK' hS => ?_); simp [argSlots, capRefs, *]) | ((with_reducible refine Goes.go hK' ?_); clear hK' hS; clear K' S) | ((with_reducible refine pws_true ?_ ?_); (· simp; done)) | with_reducible refine pws_ret ?_ | with_reducible refine blk_ret ?_)
    all_goals (refine finP_ret (vs := ?_) [] (by first | exact .inr rfl | exact .inl rfl) rfl ?_ ?_; rotate_left; (· simp [Tryz.results257, resL, resOf, *]; rfl); (· first | (simp [wrapRes, cv, *]; done) | (simp [wrapRes, cv, *]; grind) | (simp [wrapRes, cv, *]; omega)))
  · by_cases h2 : s.var < 0
    · have hs : sideO s n F a = none := by simp [sideO, h1, h2]
      have hl : sideL s n a = false := by simp [sideL]; omega
      repeat' (first | with_reducible refine pws_seq ?_ | with_reducible refine pws_block ?_ | ((with_reducible refine pws_regk fun K' S hK' hS => ?_); simp [argSlots, capRefs, *]) | ((with_reducible refine Goes.go hK' ?_); clear hK' hS; clear K' S) | ((with_reducible refine pws_true ?_ ?_); (· simp; done)) | ((with_reducible refine pws_false ?_ ?_); (· simp; done)) | with_reducible refine pws_ret ?_ | with_reducible refine blk_ret ?_)
      all_goals (refine finP_ret (vs := ?_) [] (by first | exact .inr rfl | exact .inl rfl) rfl ?_ ?_; rotate_left; (· simp [Tryz.results257, resL, resOf, *]; rfl); (· first | (simp [wrapRes, cv, *]; done) | (simp [wrapRes, cv, *]; grind) | (simp [wrapRes, cv, *]; omega)))
    · by_cases h3 : n ≤ s.var
      · have hs : sideO s n F a = none := by simp [sideO, h1, h3]
        have hl : sideL s n a = false := by simp [sideL]; omega
        repeat' (first | with_reducible refine pws_seq ?_ | with_reducible refine pws_block ?_ | ((with_reducible refine pws_regk fun K' S hK' hS => ?_); simp [argSlots, capRefs, *]) | ((with_reducible refine Goes.go hK' ?_); clear hK' hS; clear K' S) | ((with_reducible refine pws_true ?_ ?_); (· simp; done)) | ((with_reducible refine pws_false ?_ ?_); (· simp; done)) | with_reducible refine pws_ret ?_ | with_reducible refine blk_ret ?_)
        all_goals (refine finP_ret (vs := ?_) [] (by first | exact .inr rfl | exact .inl rfl) rfl ?_ ?_; rotate_left; (· simp [Tryz.results257, resL, resOf, *]; rfl); (· first | (simp [wrapRes, cv, *]; done) | (simp [wrapRes, cv, *]; grind) | (simp [wrapRes, cv, *]; omega)))
      · by_cases h4 : (a.length : Int) ≤ s.var
        · have hs : sideO s n F a = some V.z := by simp [sideO, h1, h2, h3, h4]
          have hl : sideL s n a = true := by simp [sideL]; omega
          repeat' (first | with_reducible refine pws_seq ?_ | with_reducible refine pws_block ?_ | ((with_reducible refine pws_regk fun K' S hK' hS => ?_); simp [argSlots, capRefs, *]) | ((with_reducible refine Goes.go hK' ?_); clear hK' hS; clear K' S) | ((with_reducible refine pws_true ?_ ?_); (· simp; done)) | ((with_reducible refine pws_false ?_ ?_); (· simp; done)) | with_reducible refine pws_ret ?_ | with_reducible refine blk_ret ?_)
          all_goals (refine finP_ret (vs := ?_) [] (by first | exact .inr rfl | exact .inl rfl) rfl ?_ ?_; rotate_left; (· simp [Tryz.results257, resL, resOf, *]; rfl); (· first | (simp [wrapRes, cv, *]; done) | (simp [wrapRes, cv, *]; grind) | (simp [wrapRes, cv, *]; omega)))
        · have hl : sideL s n a = false := by simp [sideL]; omega
          obtain ⟨m, hm⟩ : ∃ m : Nat, s.var = m := ⟨s.var.toNat, by omega⟩
          have hma : m < a.length := by omega
          obtain ⟨q, hq, hqF⟩ := ha.at hma
          have hs : sideO s n F a = colV F[q] s.col := by
            unfold sideO
            rw [if_neg h1, if_neg (by omega), if_neg h4, hm]
            simp only [Int.toNat_natCast, List.getElem?_eq_getElem hma, Option.getD_some, hq]
            rw [fc_nat, nf_get hqF]
          have h3' : ¬ n ≤ (m : Int) := by omega
          by_cases h5 : s.col < 0
          · have hc : colV F[q] s.col = none := by
              unfold colV
              rw [if_neg (by omega)]
            clear h1 h2 h3 h4
            repeat' (first | with_reducible refine pws_seq ?_ | with_reducible refine pws_skip ?_ | with_reducible refine pws_block ?_ | ((with_reducible refine pws_regk fun K' S hK' hS => ?_); simp [argSlots, capRefs, *]) | ((with_reducible refine Goes.go hK' ?_); clear hK' hS; clear K' S) | ((with_reducible refine pws_true ?_ ?_); (· simp; done)) | ((with_reducible refine pws_false ?_ ?_); (· simp; done)) | ((with_reducible refine pws_condk (k := ?_) ?_ (fun hb => ?_) (fun hb => ?_)); rotate_left; (· rfl); all_goals (try (simp only [decide_eq_true_eq, decide_eq_false_iff_not, Bool.not_eq_true', Bool.not_eq_false', Decidable.not_not, Bool.not_eq_true, Bool.not_eq_false, Bool.and_eq_true, beq_iff_eq] at hb))) | with_reducible refine pws_ret ?_ | with_reducible refine blk_ret ?_ | with_reducible refine blk_normal ?_ | with_reducible refine pws_nil ?_ | ((with_reducible refine runG_split (fun hb => ?_) (fun hb => ?_)); all_goals ((try (simp only [decide_eq_true_eq, decide_eq_false_iff_not, Bool.not_eq_true', Bool.not_eq_false', Decidable.not_not, Bool.not_eq_true, Bool.not_eq_false, Bool.and_eq_true, beq_iff_eq] at hb)); simp [argSlots, capRefs, *])) | ((with_reducible refine pws_drawk [] [0, 1, 2, 3, 4, 5, 6, 7, 8, 9] [] ?_ fun K' S hK' hS => ?_); (· decide +kernel); simp [argSlots, capRefs, *]))
            all_goals (refine finP_ret (vs := ?_) [] (by first | exact .inr rfl | exact .inl rfl) rfl ?_ ?_; rotate_left; (· simp [Tryz.results257, resL, resOf, *]; rfl); (· first | (simp [wrapRes, cv, *]; done) | (simp [wrapRes, cv, *]; grind) | (simp [wrapRes, cv, *]; omega)))
          · by_cases h6 : (F[q].row.length : Int) ≤ s.col
            · have hc : colV F[q] s.col = none := by
                unfold colV
                rw [if_neg (by omega)]
              clear h1 h2 h3 h4
              repeat' (first | with_reducible refine pws_seq ?_ | with_reducible refine pws_skip ?_ | with_reducible refine pws_block ?_ | ((with_reducible refine pws_regk fun K' S hK' hS => ?_); simp [argSlots, capRefs, *]) | ((with_reducible refine Goes.go hK' ?_); clear hK' hS; clear K' S) | ((with_reducible refine pws_true ?_ ?_); (· simp; done)) | ((with_reducible refine pws_false ?_ ?_); (· simp; done)) | ((with_reducible refine pws_condk (k := ?_) ?_ (fun hb => ?_) (fun hb => ?_)); rotate_left; (· rfl); all_goals (try (simp only [decide_eq_true_eq, decide_eq_false_iff_not, Bool.not_eq_true', Bool.not_eq_false', Decidable.not_not, Bool.not_eq_true, Bool.not_eq_false, Bool.and_eq_true, beq_iff_eq] at hb))) | with_reducible refine pws_ret ?_ | with_reducible refine blk_ret ?_ | with_reducible refine blk_normal ?_ | with_reducible refine pws_nil ?_ | ((with_reducible refine runG_split (fun hb => ?_) (fun hb => ?_)); all_goals ((try (simp only [decide_eq_true_eq, decide_eq_false_iff_not, Bool.not_eq_true', Bool.not_eq_false', Decidable.not_not, Bool.not_eq_true, Bool.not_eq_false, Bool.and_eq_true, beq_iff_eq] at hb)); simp [argSlots, capRefs, *])) | ((with_reducible refine pws_drawk [] [0, 1, 2, 3, 4, 5, 6, 7, 8, 9] [] ?_ fun K' S hK' hS => ?_); (· decide +kernel); simp [argSlots, capRefs, *]))
              all_goals (refine finP_ret (vs := ?_) [] (by first | exact .inr rfl | exact .inl rfl) rfl ?_ ?_; rotate_left; (· simp [Tryz.results257, resL, resOf, *]; rfl); (· first | (simp [wrapRes, cv, *]; done) | (simp [wrapRes, cv, *]; grind) | (simp [wrapRes, cv, *]; omega)))
            · obtain ⟨c, hcc⟩ : ∃ c : Nat, s.col = c := ⟨s.col.toNat, by omega⟩
              have hcl : c < F[q].row.length := by omega
              have hc : colV F[q] s.col = some F[q].row[c] := by
                unfold colV
                rw [if_pos (by omega), hcc]
                simp [hcl]
              clear h1 h2 h3 h4 h5 h6
              rw [hcc] at hc
              repeat' (first | with_reducible refine pws_seq ?_ | with_reducible refine pws_skip ?_ | with_reducible refine pws_block ?_ | ((with_reducible refine pws_regk fun K' S hK' hS => ?_); simp [argSlots, capRefs, *]) | ((with_reducible refine Goes.go hK' ?_); clear hK' hS; clear K' S) | ((with_reducible refine pws_true ?_ ?_); (· simp; done)) | ((with_reducible refine pws_false ?_ ?_); (· simp; done)) | ((with_reducible refine pws_condk (k := ?_) ?_ (fun hb => ?_) (fun hb => ?_)); rotate_left; (· rfl); all_goals (try (simp only [decide_eq_true_eq, decide_eq_false_iff_not, Bool.not_eq_true', Bool.not_eq_false', Decidable.not_not, Bool.not_eq_true, Bool.not_eq_false, Bool.and_eq_true, beq_iff_eq] at hb))) | with_reducible refine pws_ret ?_ | with_reducible refine blk_ret ?_ | with_reducible refine blk_normal ?_ | with_reducible refine pws_nil ?_ | ((with_reducible refine runG_split (fun hb => ?_) (fun hb => ?_)); all_goals ((try (simp only [decide_eq_true_eq, decide_eq_false_iff_not, Bool.not_eq_true', Bool.not_eq_false', Decidable.not_not, Bool.not_eq_true, Bool.not_eq_false, Bool.and_eq_true, beq_iff_eq] at hb)); simp [argSlots, capRefs, *])) | ((with_reducible refine pws_drawk [] [0, 1, 2, 3, 4, 5, 6, 7, 8, 9] [] ?_ fun K' S hK' hS => ?_); (· decide +kernel); simp [argSlots, capRefs, *]))
              all_goals (refine finP_ret (vs := ?_) [] (by first | exact .inr rfl | exact .inl rfl) rfl ?_ ?_; rotate_left; (· simp [Tryz.results257, resL, resOf, *]; rfl); (· first | (simp [wrapRes, cv, *]; done) | (simp [wrapRes, cv, *]; grind) | (simp [wrapRes, cv, *]; omega)))
end
section
attribute [local simp] V.c V.z Sd.c Tst.c Fx.c Rl.c Fc.c Gr.c wrap1f take_map_len take_map_len1 wrap1 wrap2 wrap3
theorem dHolds_ok (t : Tst) (n : Int) (F : List Fc) (a : List Int) (ha : Rng F a) : CC Tryz.prog 202 [.agg t.c, sint n, .pv (.sl 6 (pfacts F)), .pv (.sl 1 (ints a))] (fun sv => sv = sbool (holdsD t n F a)) := by
  refine cc_of_pw Tryz.func202 rfl enters202 Tryz.ntmps202 (by simp) (pw_of_pws ?_)
  repeat' (first | with_reducible refine pws_seq ?_ | ((with_reducible refine pws_regk fun K' S hK' hS => ?_); simp [argSlots, *]) | ((with_reducible refine Goes.go hK' ?_); clear hK' hS; clear K' S) | ((with_reducible refine GoesS.go hS ?_); clear hK' hS; clear K' S))
  refine pwl_callpk (c := ?_) (x := ?_) (f := 257) (caps := [(1, 0), (3, 0), (4, 0), (2, 0)]) (svs := [.agg t.l.c]) (own := [(0, .box (t.c.map .pv))]) (Hs := H4 n F a false) (Qr := _) ?_ ?_ ?_ ?_ ?_ ?_ (fun i b h => by simp only [List.cons_append, List.nil_append, lk, H4] at h ⊢; (repeat' split at h) <;> (try subst_vars) <;> first | (simp_all; done) | (simp_all; omega) | (exfalso; omega)) (fun i b h => by simp only [List.cons_append, List.nil_append, lk, H4] at h ⊢; (repeat' split at h) <;> (try subst_vars) <;> first | (subst_vars; simp [*]; done) | (simp_all; done) | (simp_all; omega)) (sideD_ok t.l n F a false 5 ha (by omega)) ?_; rotate_left 2; (· first | rfl | (simp [*]; done)); (· rfl); (· rfl); (· first | rfl | (simp; done)); (· first | rfl | (simp; done)); (· rfl); rintro sv nx' H' hq hn hd
  obtain ⟨rfl, rfl⟩ := hq
  simp only at hn
  generalize nx' = nx1 at *
  clear nx'
  have ne_nx1_0 : ¬ nx1 = 0 := by omega
  have ne_nx1_0' : ¬ 0 = nx1 := by omega
  have ne_nx1_1 : ¬ nx1 = 1 := by omega
  have ne_nx1_1' : ¬ 1 = nx1 := by omega
  have ne_nx1_2 : ¬ nx1 = 2 := by omega
  have ne_nx1_2' : ¬ 2 = nx1 := by omega
  have ne_nx1_3 : ¬ nx1 = 3 := by omega
  have ne_nx1_3' : ¬ 3 = nx1 := by omega
  have ne_nx1_4 : ¬ nx1 = 4 := by omega
  have ne_nx1_4' : ¬ 4 = nx1 := by omega
  clear hd
  generalize hl1 : sideL t.l n a = lat1
  generalize hv1 : sideO t.l n F a = v1
  refine pwl_runk fun K' S hK' hS => ?_; simp [*]
  repeat' (first | with_reducible refine pws_seq ?_ | ((with_reducible refine pws_regk fun K' S hK' hS => ?_); simp [argSlots, *]) | ((with_reducible refine Goes.go hK' ?_); clear hK' hS; clear K' S) | ((with_reducible refine GoesS.go hS ?_); clear hK' hS; clear K' S))
  refine pwl_callpk (c := ?_) (x := ?_) (f := 257) (caps := [(1, 0), (3, 0), (4, 0), (2, 0)]) (svs := [.agg t.r.c]) (own := [(nx1, .box ((v1.getD V.z).c.map .pv)), (0, .box (t.c.map .pv))]) (Hs := H4 n F a lat1) (Qr := _) ?_ ?_ ?_ ?_ ?_ ?_ (fun i b h => by simp only [List.cons_append, List.nil_append, lk, H4] at h ⊢; (repeat' split at h) <;> (try subst_vars) <;> first | (simp_all; done) | (simp_all; omega) | (exfalso; omega)) (fun i b h => by simp only [List.cons_append, List.nil_append, lk, H4] at h ⊢; (repeat' split at h) <;> (try subst_vars) <;> first | (subst_vars; simp [*]; done) | (simp_all; done) | (simp_all; omega)) (sideD_ok t.r n F a lat1 _ ha (by simp; omega)) ?_; rotate_left 2; (· first | rfl | (simp [*]; done)); (· rfl); (· rfl); (· first | rfl | (simp; done)); (· first | rfl | (simp; done)); (· rfl); rintro sv nx' H' hq hn hd
  obtain ⟨rfl, rfl⟩ := hq
  simp only at hn
  have ne_nx__0 : ¬ nx' = 0 := by omega
  have ne_nx__0' : ¬ 0 = nx' := by omega
  have ne_nx__1 : ¬ nx' = 1 := by omega
  have ne_nx__1' : ¬ 1 = nx' := by omega
  have ne_nx__2 : ¬ nx' = 2 := by omega
  have ne_nx__2' : ¬ 2 = nx' := by omega
  have ne_nx__3 : ¬ nx' = 3 := by omega
  have ne_nx__3' : ¬ 3 = nx' := by omega
  have ne_nx__4 : ¬ nx' = 4 := by omega
  have ne_nx__4' : ¬ 4 = nx' := by omega
  have ne_nx__nx1 : ¬ nx' = nx1 := by omega
  have ne_nx__nx1' : ¬ nx1 = nx' := by omega
  clear hd
  generalize hl2 : sideL t.r n a = lat2
  generalize hv2 : sideO t.r n F a = v2
  refine pwl_runk fun K' S hK' hS => ?_; simp [*]
  cases v1 with
  | none =>
    have hh : holdsD t n F a = false := by simp [holdsD, hv1, testD]
    repeat' (first | with_reducible refine pws_seq ?_ | ((with_reducible refine pws_regk fun K' S hK' hS => ?_); simp [argSlots, *]) | ((with_reducible refine Goes.go hK' ?_); clear hK' hS; clear K' S) | with_reducible refine pws_ret ?_)
    all_goals (refine finC_ret (vs := ?_) [] (by first | exact .inr rfl | exact .inl rfl) rfl ?_ ?_ ?_; rotate_left; (· simp [Tryz.results202, resL, resOf]; rfl); (· first | rfl | (simp [wrapRes, cv, SV.const, constL]; done)); (· first | (simp [wrapRes, cv, *]; done) | (simp [wrapRes, cv, *]; grind) | (simp [wrapRes, cv, *]; omega)))
  | some x =>
    cases v2 with
    | none =>
      have hh : holdsD t n F a = false := by simp [holdsD, hv1, hv2, testD]
      repeat' (first | with_reducible refine pws_seq ?_ | ((with_reducible refine pws_regk fun K' S hK' hS => ?_); simp [argSlots, *]) | ((with_reducible refine Goes.go hK' ?_); clear hK' hS; clear K' S) | with_reducible refine pws_ret ?_)
      all_goals (refine finC_ret (vs := ?_) [] (by first | exact .inr rfl | exact .inl rfl) rfl ?_ ?_ ?_; rotate_left; (· simp [Tryz.results202, resL, resOf]; rfl); (· first | rfl | (simp [wrapRes, cv, SV.const, constL]; done)); (· first | (simp [wrapRes, cv, *]; done) | (simp [wrapRes, cv, *]; grind) | (simp [wrapRes, cv, *]; omega)))
    | some y =>
      have hh : holdsD t n F a = (lat1 || lat2 || vTest x.k x.n x.t t.op y.k y.n y.t t.add) := by simp [holdsD, hv1, hv2, hl1, hl2, testD]
      clear hl1 hl2 hv1 hv2
      cases lat1 <;> cases lat2
      all_goals
        repeat' (first | with_reducible refine pws_seq ?_ | ((with_reducible refine pws_regk fun K' S hK' hS => ?_); simp [argSlots, *]) | ((with_reducible refine Goes.go hK' ?_); clear hK' hS; clear K' S) | ((with_reducible refine GoesS.go hS ?_); clear hK' hS; clear K' S) | with_reducible refine pws_ret ?_ | ((with_reducible refine pwl_callk (c := ?_) (x := ?_) (f := ?_) (svs := ?_) (cs := ?_) (Qr := ?_) true ?_ ?_ ?_ ?_ ?_ ?_ ?_ ?_ ?_); rotate_left 6; (· (simp [argSlots, *]; done)); (· rfl); (· rfl); (· (simp; with_reducible rfl)); (· (simp; with_reducible rfl)); (· first | (simp [bors, bor]; with_reducible rfl) | (simp [bors, bor, *]; with_reducible rfl)); (· rfl); (· ((with_reducible refine vTest_ok _ _ _ _ _ _ _ _))); (rintro sv hsv hsc; clear hsc; obtain rfl := hsv; refine ⟨(by first | (intro _; rfl) | (intro h; cases h)), ?_⟩; refine pwl_runk fun K' S hK' hS => ?_; simp [argSlots, *])))
        all_goals (refine finC_ret (vs := ?_) [] (by first | exact .inr rfl | exact .inl rfl) rfl ?_ ?_ ?_; rotate_left; (· simp [Tryz.results202, resL, resOf]; rfl); (· first | rfl | (simp [wrapRes, cv, SV.const, constL]; done)); (· first | (simp [wrapRes, cv, *]; done) | (simp [wrapRes, cv, *]; grind) | (simp [wrapRes, cv, *]; omega)))
end
section
attribute [local simp] V.c V.z Sd.c Tst.c Fx.c Rl.c Fc.c Gr.c wrap1f take_map_len take_map_len1 wrap1 wrap2 wrap3
theorem enters195 : Enters Tryz.prog 195 := enters_mk Tryz.func195 (by kernel_rfl) (by kernel_rfl)
theorem enters139 : Enters Tryz.prog 139 := enters_mk Tryz.func139 (by kernel_rfl) (by kernel_rfl)
theorem enters238 : Enters Tryz.prog 238 := enters_mk Tryz.func238 (by kernel_rfl) (by kernel_rfl)
theorem enters179 : Enters Tryz.prog 179 := enters_mk Tryz.func179 (by kernel_rfl) (by kernel_rfl)
theorem enters115 : Enters Tryz.prog 115 := enters_mk Tryz.func115 (by kernel_rfl) (by kernel_rfl)
theorem enters201 : Enters Tryz.prog 201 := enters_mk Tryz.func201 (by kernel_rfl) (by kernel_rfl)
theorem enters256 : Enters Tryz.prog 256 := enters_mk Tryz.func256 (by kernel_rfl) (by kernel_rfl)
theorem enters289 : Enters Tryz.prog 289 := enters_mk Tryz.func289 (by kernel_rfl) (by kernel_rfl)
theorem enters255 : Enters Tryz.prog 255 := enters_mk Tryz.func255 (by kernel_rfl) (by kernel_rfl)
theorem enters251 : Enters Tryz.prog 251 := enters_mk Tryz.func251 (by kernel_rfl) (by kernel_rfl)
theorem enters200 : Enters Tryz.prog 200 := enters_mk Tryz.func200 (by kernel_rfl) (by kernel_rfl)
theorem enters146 : Enters Tryz.prog 146 := enters_mk Tryz.func146 (by kernel_rfl) (by kernel_rfl)
theorem enters198 : Enters Tryz.prog 198 := enters_mk Tryz.func198 (by kernel_rfl) (by kernel_rfl)
theorem enters199 : Enters Tryz.prog 199 := enters_mk Tryz.func199 (by kernel_rfl) (by kernel_rfl)
theorem enters144 : Enters Tryz.prog 144 := enters_mk Tryz.func144 (by kernel_rfl) (by kernel_rfl)
theorem enters197 : Enters Tryz.prog 197 := enters_mk Tryz.func197 (by kernel_rfl) (by kernel_rfl)
def idxOf : List Int → Int → Nat → Int
  | [], _, _ => -1
  | a :: r, x, k => if a = x then (k : Int) else idxOf r x (k + 1)
theorem idxOf_cons (a : Int) (r : List Int) (x : Int) (k : Nat) : idxOf (a :: r) x k = if a = x then (k : Int) else idxOf r x (k + 1) := rfl
theorem idxOf_ge (l : List Int) (x : Int) (k : Nat) : (0 ≤ idxOf l x k) = (isIn l x = true) := by
  induction l generalizing k with
  | nil => simp [idxOf, isIn]
  | cons a r ih =>
    rw [idxOf_cons]
    by_cases h : a = x
    · rw [if_pos h]
      simp [isIn, h]
    · rw [if_neg h, ih]
      simp [isIn, h]
theorem index_ok (l : List Int) (x : Int) : CC Tryz.prog 195 [.pv (.sl 1 (ints l)), sint x] (fun sv => sv = sint (idxOf l x 0)) := by
  refine cc_of_pw Tryz.func195 rfl enters195 Tryz.ntmps195 (by simp) (pw_of_pws ?_)
  refine pws_ent (Ent.refl _) (pws_len (t := 0) (es := 1) (xs := ints l) rfl fun hx => ?_)
  simp [maxLen] at hx
  repeat' (first | with_reducible refine pws_seq ?_ | with_reducible refine pws_block ?_ | ((with_reducible refine pws_regk fun K' S hK' hS => ?_); simp [argSlots, *]) | ((with_reducible refine Goes.go hK' ?_); clear hK' hS; clear K' S))
  refine pws_loop (α := { k : Nat // k ≤ l.length }) (fun k => { n := 19, nx := 0, s := [(8, sint k.1), (7, sint l.length), (0, .pv (.sl 1 (ints l))), (1, sint x)], h := [], d := [] }) (fun k => l.length - k.1) (fun k => idxOf (l.drop k.1) x k.1 = idxOf l x 0) ⟨0, by omega⟩ rfl (ent_sub rfl rfl rfl (by simp [SubL, *]) (by simp [SubL, *]) (by simp) (by simp) (by simp [slotsBelow, SV.lo, belowL]) (by simp [heapBelow, ABlk.lo, SV.lo, belowL, slotsBelow])) ?_
  rintro ⟨k, hk⟩ hok K hK
  simp only at hok
  by_cases h1 : k < l.length
  · have hw := wrap64_id (n := (k : Int) + 1) (by omega)
    rw [List.drop_eq_getElem_cons h1, idxOf_cons] at hok
    by_cases he : l[k] = x
    · rw [if_pos he] at hok
      replace hok := hok.symm
      have he' : (x = l[k]) = True := eq_true he.symm
      clear hK he
      repeat' (first | with_reducible refine pws_seq ?_ | with_reducible refine pws_skip ?_ | with_reducible refine pws_block ?_ | ((with_reducible refine pws_regk fun K' S hK' hS => ?_); simp [argSlots, *]) | ((with_reducible refine Goes.go hK' ?_); clear hK' hS; clear K' S) | ((with_reducible refine pws_true ?_ ?_); (· simp; done)) | with_reducible refine pws_ret ?_ | with_reducible refine blk_ret ?_ | with_reducible refine thenQ_ret ?_)
      all_goals (refine finC_ret (vs := ?_) [] (by first | exact .inr rfl | exact .inl rfl) rfl ?_ ?_ ?_; rotate_left; (· simp [Tryz.results195, resL, resOf]; rfl); (· first | rfl | (simp [wrapRes, cv, SV.const, constL]; done)); (· first | (simp [wrapRes, cv, *]; done) | (simp [wrapRes, cv, *]; grind) | (simp [wrapRes, cv, *]; omega)))
    · rw [if_neg he] at hok
      have he' : ¬ x = l[k] := fun h => he h.symm
      repeat' (first | with_reducible refine pws_seq ?_ | with_reducible refine pws_skip ?_ | with_reducible refine pws_block ?_ | ((with_reducible refine pws_regk fun K' S hK' hS => ?_); simp [argSlots, *]) | ((with_reducible refine Goes.go hK' ?_); clear hK' hS; clear K' S) | ((with_reducible refine pws_true ?_ ?_); (· simp; done)) | ((with_reducible refine pws_false ?_ ?_); (· simp; done)) | with_reducible refine blk_normal ?_ | with_reducible refine thenQ_normal ?_ | with_reducible refine pws_nil ?_)
      refine hK _ ⟨k + 1, by omega⟩ (ent_sub rfl rfl rfl (by simp [SubL, *]) (by simp [SubL, *]) (by simp) (by simp) (by simp [slotsBelow, SV.lo, belowL]) (by simp [heapBelow, ABlk.lo, SV.lo, belowL, slotsBelow])) ?_ (by simp; omega)
      exact hok
  · rw [List.drop_of_length_le (by omega)] at hok
    have hok' : idxOf l x 0 = -1 := hok.symm
    clear hok
    repeat' (first | with_reducible refine pws_seq ?_ | ((with_reducible refine pws_regk fun K' S hK' hS => ?_); simp [argSlots, *]) | ((with_reducible refine Goes.go hK' ?_); clear hK' hS; clear K' S) | ((with_reducible refine pws_false ?_ ?_); (· simp; done)) | with_reducible refine pws_ret ?_ | with_reducible refine blk_same ?_ | with_reducible refine thenQ_exit ?_ | with_reducible refine pws_exit ?_)
    all_goals (refine finC_ret (vs := ?_) [] (by first | exact .inr rfl | exact .inl rfl) rfl ?_ ?_ ?_; rotate_left; (· simp [Tryz.results195, resL, resOf]; rfl); (· first | rfl | (simp [wrapRes, cv, SV.const, constL]; done)); (· first | (simp [wrapRes, cv, *]; done) | (simp [wrapRes, cv, *]; grind) | (simp [wrapRes, cv, *]; omega)))
theorem sContains_ok (l : List Int) (x : Int) : CC Tryz.prog 139 [.pv (.sl 1 (ints l)), sint x] (fun sv => sv = sbool (isIn l x)) := by
  refine cc_of_pw Tryz.func139 rfl enters139 Tryz.ntmps139 (by simp) (pw_of_pws ?_)
  have hg := idxOf_ge l x 0
  repeat' (first | with_reducible refine pws_seq ?_ | ((with_reducible refine pws_regk fun K' S hK' hS => ?_); simp [argSlots, *]) | ((with_reducible refine Goes.go hK' ?_); clear hK' hS; clear K' S) | ((with_reducible refine GoesS.go hS ?_); clear hK' hS; clear K' S) | with_reducible refine pws_ret ?_ | ((with_reducible refine pwl_callk (c := ?_) (x := ?_) (f := ?_) (svs := ?_) (cs := ?_) (Qr := ?_) true ?_ ?_ ?_ ?_ ?_ ?_ ?_ ?_ ?_); rotate_left 6; (· (simp [argSlots, *]; done)); (· rfl); (· rfl); (· (simp; with_reducible rfl)); (· (simp; with_reducible rfl)); (· first | (simp [bors, bor]; with_reducible rfl) | (simp [bors, bor, *]; with_reducible rfl)); (· rfl); (· ((with_reducible refine index_ok l x))); (rintro sv hsv hsc; clear hsc; obtain rfl := hsv; refine ⟨(by first | (intro _; rfl) | (intro h; cases h)), ?_⟩; refine pwl_runk fun K' S hK' hS => ?_; simp [argSlots, *])))
  all_goals (refine finC_ret (vs := ?_) [] (by first | exact .inr rfl | exact .inl rfl) rfl ?_ ?_ ?_; rotate_left; (· simp [Tryz.results139, resL, resOf]; rfl); (· first | rfl | (simp [wrapRes, cv, SV.const, constL]; done)); (· first | (simp [wrapRes, cv, *]; done) | (simp [wrapRes, cv, *]; grind) | (simp [wrapRes, cv, *]; omega)))
theorem isNaN_ok (x : Int) : CC Tryz.prog 238 [sint x] (fun sv => sv = sbool false) := by
  refine cc_of_pw Tryz.func238 rfl enters238 Tryz.ntmps238 (by simp) (pw_of_pws ?_)
  repeat' (first | with_reducible refine pws_seq ?_ | ((with_reducible refine pws_regk fun K' S hK' hS => ?_); simp [argSlots, *]) | ((with_reducible refine Goes.go hK' ?_); clear hK' hS; clear K' S) | with_reducible refine pws_ret ?_)
  all_goals (refine finC_ret (vs := ?_) [] (by first | exact .inr rfl | exact .inl rfl) rfl ?_ ?_ ?_; rotate_left; (· simp [Tryz.results238, resL, resOf]; rfl); (· first | rfl | (simp [wrapRes, cv, SV.const, constL]; done)); (· first | (simp [wrapRes, cv, *]; done) | (simp [wrapRes, cv, *]; grind) | (simp [wrapRes, cv, *]; omega)))
theorem cmpI_ok (x y : Int) : CC Tryz.prog 179 [sint x, sint y] (fun sv => sv = sint (sgn x y)) := by
  refine cc_of_pw Tryz.func179 rfl enters179 Tryz.ntmps179 (by simp) (pw_of_pws ?_)
  repeat' (first | with_reducible refine pws_seq ?_ | with_reducible refine pws_skip ?_ | ((with_reducible refine pws_regk fun K' S hK' hS => ?_); simp [argSlots, *]) | ((with_reducible refine Goes.go hK' ?_); clear hK' hS; clear K' S) | ((with_reducible refine GoesS.go hS ?_); clear hK' hS; clear K' S) | ((with_reducible refine pws_false ?_ ?_); (· simp; done)) | ((with_reducible refine pws_condk (k := ?_) ?_ (fun hb => ?_) (fun hb => ?_)); rotate_left; (· rfl); all_goals (try (simp only [decide_eq_true_eq, decide_eq_false_iff_not, Bool.not_eq_true', Bool.not_eq_false', Decidable.not_not, Bool.not_eq_true, Bool.not_eq_false, Bool.and_eq_true, beq_iff_eq] at hb))) | with_reducible refine pws_ret ?_ | ((with_reducible refine pwl_callk (c := ?_) (x := ?_) (f := ?_) (svs := ?_) (cs := ?_) (Qr := ?_) true ?_ ?_ ?_ ?_ ?_ ?_ ?_ ?_ ?_); rotate_left 6; (· (simp [argSlots, *]; done)); (· rfl); (· rfl); (· (simp; with_reducible rfl)); (· (simp; with_reducible rfl)); (· first | (simp [bors, bor]; with_reducible rfl) | (simp [bors, bor, *]; with_reducible rfl)); (· rfl); (· ((with_reducible refine isNaN_ok _))); (rintro sv hsv hsc; clear hsc; obtain rfl := hsv; refine ⟨(by first | (intro _; rfl) | (intro h; cases h)), ?_⟩; refine pwl_runk fun K' S hK' hS => ?_; simp [argSlots, *])))
  all_goals (refine finC_ret (vs := ?_) [] (by first | exact .inr rfl | exact .inl rfl) rfl ?_ ?_ ?_; rotate_left; (· simp [Tryz.results179, resL, resOf]; rfl); (· first | rfl | (simp [wrapRes, cv, SV.const, constL]; done)); (· first | (simp [wrapRes, cv, sgn, *]; done) | (simp [wrapRes, cv, sgn, *]; grind) | (simp [wrapRes, cv, sgn, *]; omega)))
def lexCmp : List Int → List Int → Int
  | [], [] => 0
  | [], _ :: _ => -1
  | _ :: _, [] => 1
  | a :: l, b :: m => if sgn a b ≠ 0 then sgn a b else lexCmp l m
theorem lexCmp_cons (a : Int) (l : List Int) (b : Int) (m : List Int) : lexCmp (a :: l) (b :: m) = if sgn a b ≠ 0 then sgn a b else lexCmp l m := rfl
theorem lexCmp_lt : ∀ l m : List Int, decide (lexCmp l m < 0) = lexLt l m
  | [], [] => by simp [lexCmp, lexLt]
  | [], _ :: _ => by simp [lexCmp, lexLt]
  | _ :: _, [] => by simp [lexCmp, lexLt]
  | a :: l, b :: m => by
    unfold lexCmp lexLt
    have ih := lexCmp_lt l m
    by_cases h : a = b
    · subst h
      simp [sgn, ih]
    · by_cases h2 : a < b
      · simp [sgn, h, h2]
      · have h3 : b < a := by omega
        simp [sgn, h, h2, h3]
theorem compare_ok (l m : List Int) : CC Tryz.prog 115 [.pv (.sl 1 (ints l)), .pv (.sl 1 (ints m))] (fun sv => sv = sint (lexCmp l m)) := by
  refine cc_of_pw Tryz.func115 rfl enters115 Tryz.ntmps115 (by simp) (pw_of_pws ?_)
  refine pws_ent (Ent.refl _) (pws_len (t := 0) (es := 1) (xs := ints l) rfl fun hx => ?_)
  simp [maxLen] at hx
  repeat' (first | with_reducible refine pws_seq ?_ | with_reducible refine pws_block ?_ | ((with_reducible refine pws_regk fun K' S hK' hS => ?_); simp [argSlots, *]) | ((with_reducible refine Goes.go hK' ?_); clear hK' hS; clear K' S))
  refine pws_loop (α := { k : Nat // k ≤ l.length }) (fun k => { n := 36, nx := 0, s := [(11, sint k.1), (10, sint l.length), (9, .pv (.sl 1 (ints l))), (0, .pv (.sl 1 (ints l))), (1, .pv (.sl 1 (ints m)))], h := [], d := [] }) (fun k => l.length - k.1) (fun k => k.1 ≤ m.length ∧ lexCmp (l.drop k.1) (m.drop k.1) = lexCmp l m) ⟨0, by omega⟩ ⟨by simp, rfl⟩ (ent_sub rfl rfl rfl (by simp [SubL, *]) (by simp [SubL, *]) (by simp) (by simp) (by simp [slotsBelow, SV.lo, belowL]) (by simp [heapBelow, ABlk.lo, SV.lo, belowL, slotsBelow])) ?_
  rintro ⟨k, hk⟩ ⟨hkm, hok⟩ K hK
  simp only at hok hkm
  by_cases h1 : k < l.length
  · have hw := wrap64_id (n := (k : Int) + 1) (by omega)
    rw [List.drop_eq_getElem_cons h1] at hok
    by_cases h2 : k < m.length
    · have h2i : ¬ (m.length : Int) ≤ k := by omega
      rw [List.drop_eq_getElem_cons h2, lexCmp_cons] at hok
      by_cases hs : sgn l[k] m[k] = 0
      · rw [if_neg (by simpa using hs)] at hok
        repeat' (first | with_reducible refine pws_seq ?_ | with_reducible refine pws_skip ?_ | with_reducible refine pws_block ?_ | ((with_reducible refine pws_regk fun K' S hK' hS => ?_); simp [argSlots, *]) | ((with_reducible refine Goes.go hK' ?_); clear hK' hS; clear K' S) | ((with_reducible refine GoesS.go hS ?_); clear hK' hS; clear K' S) | ((with_reducible refine pws_true ?_ ?_); (· simp; done)) | ((with_reducible refine pws_false ?_ ?_); (· simp; done)) | with_reducible refine blk_normal ?_ | with_reducible refine thenQ_normal ?_ | with_reducible refine pws_nil ?_ | ((with_reducible refine pwl_callk (c := ?_) (x := ?_) (f := ?_) (svs := ?_) (cs := ?_) (Qr := ?_) true ?_ ?_ ?_ ?_ ?_ ?_ ?_ ?_ ?_); rotate_left 6; (· (simp [argSlots, *]; done)); (· rfl); (· rfl); (· (simp; with_reducible rfl)); (· (simp; with_reducible rfl)); (· first | (simp [bors, bor]; with_reducible rfl) | (simp [bors, bor, *]; with_reducible rfl)); (· rfl); (· ((with_reducible refine cmpI_ok _ _))); (rintro sv hsv hsc; clear hsc; obtain rfl := hsv; refine ⟨(by first | (intro _; rfl) | (intro h; cases h)), ?_⟩; refine pwl_runk fun K' S hK' hS => ?_; simp [argSlots, *])))
        refine hK _ ⟨k + 1, by omega⟩ (ent_sub rfl rfl rfl (by simp [SubL, *]) (by simp [SubL, *]) (by simp) (by simp) (by simp [slotsBelow, SV.lo, belowL]) (by simp [heapBelow, ABlk.lo, SV.lo, belowL, slotsBelow])) ⟨by simp; omega, hok⟩ (by simp; omega)
      · rw [if_pos hs] at hok
        replace hok := hok.symm
        clear hK
        repeat' (first | with_reducible refine pws_seq ?_ | with_reducible refine pws_skip ?_ | with_reducible refine pws_block ?_ | ((with_reducible refine pws_regk fun K' S hK' hS => ?_); simp [argSlots, *]) | ((with_reducible refine Goes.go hK' ?_); clear hK' hS; clear K' S) | ((with_reducible refine GoesS.go hS ?_); clear hK' hS; clear K' S) | ((with_reducible refine pws_true ?_ ?_); (· simp; done)) | ((with_reducible refine pws_false ?_ ?_); (· simp; done)) | with_reducible refine pws_ret ?_ | with_reducible refine blk_ret ?_ | with_reducible refine thenQ_ret ?_ | ((with_reducible refine pwl_callk (c := ?_) (x := ?_) (f := ?_) (svs := ?_) (cs := ?_) (Qr := ?_) true ?_ ?_ ?_ ?_ ?_ ?_ ?_ ?_ ?_); rotate_left 6; (· (simp [argSlots, *]; done)); (· rfl); (· rfl); (· (simp; with_reducible rfl)); (· (simp; with_reducible rfl)); (· first | (simp [bors, bor]; with_reducible rfl) | (simp [bors, bor, *]; with_reducible rfl)); (· rfl); (· ((with_reducible refine cmpI_ok _ _))); (rintro sv hsv hsc; clear hsc; obtain rfl := hsv; refine ⟨(by first | (intro _; rfl) | (intro h; cases h)), ?_⟩; refine pwl_runk fun K' S hK' hS => ?_; simp [argSlots, *])))
        all_goals (refine finC_ret (vs := ?_) [] (by first | exact .inr rfl | exact .inl rfl) rfl ?_ ?_ ?_; rotate_left; (· simp [Tryz.results115, resL, resOf]; rfl); (· first | rfl | (simp [wrapRes, cv, SV.const, constL]; done)); (· first | (simp [wrapRes, cv, *]; done) | (simp [wrapRes, cv, *]; grind) | (simp [wrapRes, cv, *]; omega)))
    · have h2i : (m.length : Int) ≤ k := by omega
      rw [List.drop_of_length_le (by omega : m.length ≤ k)] at hok
      have hok' : lexCmp l m = 1 := hok.symm
      clear hok
      repeat' (first | with_reducible refine pws_seq ?_ | with_reducible refine pws_skip ?_ | with_reducible refine pws_block ?_ | ((with_reducible refine pws_regk fun K' S hK' hS => ?_); simp [argSlots, *]) | ((with_reducible refine Goes.go hK' ?_); clear hK' hS; clear K' S) | ((with_reducible refine pws_true ?_ ?_); (· simp; done)) | with_reducible refine pws_ret ?_ | with_reducible refine blk_ret ?_ | with_reducible refine thenQ_ret ?_)
      all_goals (refine finC_ret (vs := ?_) [] (by first | exact .inr rfl | exact .inl rfl) rfl ?_ ?_ ?_; rotate_left; (· simp [Tryz.results115, resL, resOf]; rfl); (· first | rfl | (simp [wrapRes, cv, SV.const, constL]; done)); (· first | (simp [wrapRes, cv, *]; done) | (simp [wrapRes, cv, *]; grind) | (simp [wrapRes, cv, *]; omega)))
  · obtain rfl : k = l.length := by omega
    clear hK
    rw [List.drop_of_length_le (Nat.le_refl _)] at hok
    by_cases h2 : l.length < m.length
    · rw [List.drop_eq_getElem_cons h2] at hok
      have hok' : lexCmp l m = -1 := hok.symm
      clear hok
      repeat' (first | with_reducible refine pws_seq ?_ | ((with_reducible refine pws_regk fun K' S hK' hS => ?_); simp [argSlots, *]) | ((with_reducible refine Goes.go hK' ?_); clear hK' hS; clear K' S) | ((with_reducible refine pws_true ?_ ?_); (· simp; done)) | ((with_reducible refine pws_false ?_ ?_); (· simp; done)) | with_reducible refine pws_ret ?_ | with_reducible refine blk_same ?_ | with_reducible refine thenQ_exit ?_ | with_reducible refine pws_exit ?_)
      all_goals (refine finC_ret (vs := ?_) [] (by first | exact .inr rfl | exact .inl rfl) rfl ?_ ?_ ?_; rotate_left; (· simp [Tryz.results115, resL, resOf]; rfl); (· first | rfl | (simp [wrapRes, cv, SV.const, constL]; done)); (· first | (simp [wrapRes, cv, *]; done) | (simp [wrapRes, cv, *]; grind) | (simp [wrapRes, cv, *]; omega)))
    · rw [List.drop_of_length_le (by omega : m.length ≤ l.length)] at hok
      have hok' : lexCmp l m = 0 := hok.symm
      have h2i : ¬ (l.length : Int) < m.length := by omega
      clear hok
      repeat' (first | with_reducible refine pws_seq ?_ | with_reducible refine pws_skip ?_ | ((with_reducible refine pws_regk fun K' S hK' hS => ?_); simp [argSlots, *]) | ((with_reducible refine Goes.go hK' ?_); clear hK' hS; clear K' S) | ((with_reducible refine pws_false ?_ ?_); (· simp; done)) | with_reducible refine pws_ret ?_ | with_reducible refine blk_same ?_ | with_reducible refine thenQ_exit ?_ | with_reducible refine pws_exit ?_)
      all_goals (refine finC_ret (vs := ?_) [] (by first | exact .inr rfl | exact .inl rfl) rfl ?_ ?_ ?_; rotate_left; (· simp [Tryz.results115, resL, resOf]; rfl); (· first | rfl | (simp [wrapRes, cv, SV.const, constL]; done)); (· first | (simp [wrapRes, cv, *]; done) | (simp [wrapRes, cv, *]; grind) | (simp [wrapRes, cv, *]; omega)))
end
end Go.Proofs.T1
/- A map from names of sets to sets; the proper parts of a set by bits. -/
namespace Go.Proofs.T1
open Go.Vc Go.RowKit
def ddA (l : List (List Int)) (s : List Int) : List (List Int) := if s ∈ l then l else l ++ [s]
def ddF (l : List (List Int)) : List (List Int) := l.foldl ddA []
theorem ddF_snoc (l : List (List Int)) (s : List Int) : ddF (l ++ [s]) = ddA (ddF l) s := by simp [ddF]
theorem mem_ddA {l : List (List Int)} {s t : List Int} : t ∈ ddA l s ↔ t ∈ l ∨ t = s := by
  unfold ddA
  split
  · exact ⟨.inl, fun h => h.elim id fun e => e ▸ ‹s ∈ l›⟩
  · simp
theorem mem_foldl_ddA {t : List Int} : ∀ {l a : List (List Int)}, t ∈ l.foldl ddA a ↔ t ∈ a ∨ t ∈ l
  | [], a => by simp
  | s :: l, a => by rw [List.foldl_cons, mem_foldl_ddA, mem_ddA]; simp [or_assoc]
theorem mem_ddF {l : List (List Int)} {t : List Int} : t ∈ ddF l ↔ t ∈ l := by unfold ddF; rw [mem_foldl_ddA]; simp
theorem nodup_ddA {l : List (List Int)} {s : List Int} (h : l.Nodup) : (ddA l s).Nodup := by
  unfold ddA
  split
  · exact h
  · rename_i hn
    rw [List.nodup_append]
    exact ⟨h, by simp, fun a ha b hb e => by simp at hb; subst hb; subst e; exact hn ha⟩
theorem nodup_foldl_ddA : ∀ {l a : List (List Int)}, a.Nodup → (l.foldl ddA a).Nodup
  | [], a, h => h
  | s :: l, a, h => by rw [List.foldl_cons]; exact nodup_foldl_ddA (nodup_ddA h)
theorem nodup_ddF {l : List (List Int)} : (ddF l).Nodup := nodup_foldl_ddA List.nodup_nil
abbrev nmV (s : List Int) : SV := .pv (.lit (.string (nameB s)))
abbrev stV (s : List Int) : SV := .pv (.sl 1 (ints s))
def mentsF : Nat → List (List Int) → List (Nat × SV × SV)
  | _, [] => []
  | k, s :: l => (k, nmV s, stV s) :: mentsF (k + 1) l
theorem mentsF_append : ∀ (k : Nat) (l m : List (List Int)), mentsF k (l ++ m) = mentsF k l ++ mentsF (k + l.length) m
  | _, [], m => by simp [mentsF]
  | k, s :: l, m => by
    simp only [List.cons_append, mentsF, List.length_cons]
    rw [mentsF_append (k + 1) l m]
    congr 3
    omega
theorem mentsF_get : ∀ (k : Nat) (l : List (List Int)) (j : Nat), (mentsF k l)[j]? = (l[j]?).map fun s => (k + j, nmV s, stV s)
  | _, [], j => by simp [mentsF]
  | k, s :: l, 0 => by simp [mentsF]
  | k, s :: l, j + 1 => by
    simp only [mentsF, List.getElem?_cons_succ, mentsF_get (k + 1) l j]
    congr 1
    funext t
    congr 1
    omega
theorem mentsF_fst : ∀ (k : Nat) (l : List (List Int)), (mentsF k l).map (·.1) = (List.range l.length).map (k + ·)
  | _, [] => rfl
  | k, s :: l => by
    simp only [mentsF, List.map_cons, mentsF_fst (k + 1) l, List.length_cons, List.range_succ_eq_map, List.map_map]
    congr 1
    apply List.map_congr_left
    intro a _
    simp only [Function.comp_apply]
    omega
theorem mentsF_nodup (l : List (List Int)) : ((mentsF 0 l).map (·.1)).Nodup := by
  rw [mentsF_fst]
  have : (List.range l.length).map (0 + ·) = List.range l.length := by simp
  rw [this]
  exact List.nodup_range
theorem mfind_ments {s : List Int} (hs : Small s) : ∀ {l : List (List Int)} {k i : Nat}, (∀ t ∈ l, Small t) →
    (s ∉ l ∧ mfind .string (.string (nameB s)) (mentsF k l) i = some none) ∨ (∃ j, l[j]? = some s ∧ mfind .string (.string (nameB s)) (mentsF k l) i = some (some (i + j, stV s)))
  | [], k, i, _ => .inl ⟨by simp, rfl⟩
  | t :: l, k, i, h => by
    have ht : Small t := h t (by simp)
    by_cases e : s = t
    · subst e
      refine .inr ⟨0, rfl, ?_⟩
      simp [mentsF, mfind, litOf, isKeyB, keq]
    · have hne : ¬ nameB s = nameB t := fun hx => e (nameB_inj hs ht hx)
      have hkeq : keq (.string (nameB s)) (.string (nameB t)) = false := by
        simp only [keq, decide_eq_false_iff_not]
        exact hne
      have hstep : mfind .string (.string (nameB s)) (mentsF k (t :: l)) i = mfind .string (.string (nameB s)) (mentsF (k + 1) l) (i + 1) := by
        simp only [mentsF, mfind, litOf, isKeyB, hkeq]
        simp
      rw [hstep]
      rcases mfind_ments hs (l := l) (k := k + 1) (i := i + 1) fun t ht => h t (by simp [ht]) with ⟨h1, h2⟩ | ⟨j, h1, h2⟩
      · exact .inl ⟨by simp [e, h1], h2⟩
      · refine .inr ⟨j + 1, by simpa using h1, ?_⟩
        rw [h2]
        congr 3
        omega
theorem mput_ments {s : List Int} {l : List (List Int)} (hs : Small s) (hl : ∀ t ∈ l, Small t) : mput .string (nmV s) (stV s) (.string (nameB s)) l.length (mentsF 0 l) = some ((ddA l s).length, mentsF 0 (ddA l s)) := by
  unfold mput
  rcases mfind_ments hs (l := l) (k := 0) (i := 0) hl with ⟨h1, h2⟩ | ⟨j, h1, h2⟩
  · rw [h2]
    simp only [ddA, if_neg h1, List.length_append, List.length_cons, List.length_nil, mentsF_append, mentsF, Nat.zero_add]
  · rw [h2]
    have hm : s ∈ l := List.mem_of_getElem? h1
    have hg : (mentsF 0 l)[0 + j]? = some (j, nmV s, stV s) := by rw [Nat.zero_add, mentsF_get, h1]; simp
    simp only [hg, ddA, if_pos hm]
    congr 2
    have hlt : 0 + j < (mentsF 0 l).length := (List.getElem?_eq_some_iff.1 hg).1
    have he := (List.getElem?_eq_some_iff.1 hg).2
    rw [← he]
    exact List.set_getElem_self hlt
theorem mfind_in {s : List Int} {l : List (List Int)} (hs : Small s) (hl : ∀ t ∈ l, Small t) (h : s ∈ l) : ∃ j, mfind .string (.string (nameB s)) (mentsF 0 l) 0 = some (some (j, stV s)) := by
  rcases mfind_ments hs (l := l) (k := 0) (i := 0) hl with ⟨h1, _⟩ | ⟨j, _, h2⟩
  · exact absurd h h1
  · exact ⟨_, h2⟩
theorem mfind_out {s : List Int} {l : List (List Int)} (hs : Small s) (hl : ∀ t ∈ l, Small t) (h : s ∉ l) : mfind .string (.string (nameB s)) (mentsF 0 l) 0 = some none := by
  rcases mfind_ments hs (l := l) (k := 0) (i := 0) hl with ⟨_, h2⟩ | ⟨j, h1, _⟩
  · exact h2
  · exact absurd (List.mem_of_getElem? h1) h
/-! ### Parts by bits -/
def bitOn (b i : Nat) : Bool := decide (b / 2 ^ i % 2 = 1)
def bp (s : List Int) (b k : Nat) : List Int := ((List.range k).filter (bitOn b)).map fun i => s.getD i 0
theorem bp_zero (s : List Int) (b : Nat) : bp s b 0 = [] := rfl
theorem bp_succ {s : List Int} {b k : Nat} (h : k < s.length) : bp s b (k + 1) = if bitOn b k then bp s b k ++ [s[k]] else bp s b k := by
  unfold bp
  rw [List.range_succ, List.filter_append, List.map_append]
  cases hb : bitOn b k <;> simp [hb, h]
theorem bp_len (s : List Int) (b k : Nat) : (bp s b k).length ≤ k := by
  unfold bp
  rw [List.length_map]
  exact Nat.le_trans (List.length_filter_le _ _) (by simp)
theorem bp_small {s : List Int} {b k : Nat} (hs : Small s) : Small (bp s b k) := fun x hx => by
  obtain ⟨i, _, rfl⟩ := List.mem_map.1 hx
  by_cases h : i < s.length
  · have : s.getD i 0 = s[i] := by simp [h]
    rw [this]
    exact hs _ (List.getElem_mem h)
  · have : s.getD i 0 = 0 := by simp [List.getElem?_eq_none (Nat.le_of_not_lt h)]
    rw [this]
    omega
def okS (ds : List (List Int)) (s : List Int) (b : Nat) : Bool := (List.range b).all fun j => decide (j = 0) || !ds.contains (bp s j s.length)
theorem okS_one (ds : List (List Int)) (s : List Int) : okS ds s 1 = true := by simp [okS, List.range_succ]
theorem okS_zero (ds : List (List Int)) (s : List Int) : okS ds s 0 = true := by simp [okS]
theorem okS_succ {ds : List (List Int)} {s : List Int} {b : Nat} (h : 0 < b) : okS ds s (b + 1) = (okS ds s b && !ds.contains (bp s b s.length)) := by
  unfold okS
  rw [List.range_succ, List.all_append]
  have : ¬ b = 0 := by omega
  simp [this]
theorem okS_parts {ds : List (List Int)} {s : List Int} (h : s.length ≤ 3) : okS ds s (2 ^ s.length - 1) = true ↔ ∀ p ∈ parts s, p ∉ ds := by
  match s, h with
  | [], _ => simp [okS, parts]
  | [a], _ => simp [okS, parts, List.range_succ]
  | [a, b], _ => simp [okS, parts, List.range_succ, bp, bitOn]
  | [a, b, c], _ => simp [okS, parts, List.range_succ, bp, bitOn, and_assoc]
/-- What is taken out of a map in any order, ordered. -/
def outOf (ds : List (List Int)) (seen : List Nat) : List (List Int) := (seen.map fun b => ds.getD b []).filter fun s => okS ds s (2 ^ s.length - 1)
theorem outOf_snoc {ds : List (List Int)} {seen : List Nat} {b : Nat} {s : List Int} (h : ds[b]? = some s) : outOf ds (seen ++ [b]) = if okS ds s (2 ^ s.length - 1) then outOf ds seen ++ [s] else outOf ds seen := by
  unfold outOf
  have : ds.getD b [] = s := by simp [h]
  rw [List.map_append, List.filter_append]
  simp only [List.map_cons, List.map_nil, this]
  by_cases hb : okS ds s (2 ^ s.length - 1) = true <;> simp [hb]
theorem outOf_len (ds : List (List Int)) (seen : List Nat) : (outOf ds seen).length ≤ seen.length := by
  unfold outOf
  exact Nat.le_trans (List.length_filter_le _ _) (by simp)
theorem outOf_min {sets : List (List Int)} {seen : List Nat} (h3 : ∀ s ∈ sets, s.length ≤ 3) (hn : seen.Nodup) (hlt : ∀ b ∈ seen, b < (ddF sets).length) (hall : ∀ b, b < (ddF sets).length → b ∈ seen) : lsort (outOf (ddF sets) seen) = minL sets := by
  refine (minL_eq ⟨lsort_strict ?_, fun s => ?_⟩).symm
  · unfold outOf
    refine List.Pairwise.filter _ (List.pairwise_map.2 (hn.imp_of_mem ?_))
    intro x y hx hy hxy e
    have h1 := hlt x hx
    have h2 := hlt y hy
    have e1 : (ddF sets).getD x [] = (ddF sets)[x] := by simp [h1]
    have e2 : (ddF sets).getD y [] = (ddF sets)[y] := by simp [h2]
    rw [e1, e2] at e
    rcases Nat.lt_or_gt_of_ne hxy with hl | hl
    · exact List.pairwise_iff_getElem.1 nodup_ddF x y h1 h2 hl e
    · exact List.pairwise_iff_getElem.1 nodup_ddF y x h2 h1 hl e.symm
  · rw [mem_lsort]
    unfold outOf
    rw [List.mem_filter]
    constructor
    · rintro ⟨h1, h2⟩
      obtain ⟨b, hb, rfl⟩ := List.mem_map.1 h1
      have hl := hlt b hb
      have e1 : (ddF sets).getD b [] = (ddF sets)[b] := by simp [hl]
      rw [e1] at h2 ⊢
      have hm : (ddF sets)[b] ∈ sets := mem_ddF.1 (List.getElem_mem hl)
      refine ⟨hm, fun p hp hps => (okS_parts (h3 _ hm)).1 h2 p hp (mem_ddF.2 hps)⟩
    · rintro ⟨h1, h2⟩
      obtain ⟨b, hl, rfl⟩ := List.mem_iff_getElem.1 (mem_ddF.2 h1)
      refine ⟨List.mem_map.2 ⟨b, hall b hl, by simp [hl]⟩, (okS_parts (h3 _ h1)).2 fun p hp hps => h2 p hp (mem_ddF.1 hps)⟩
theorem seen_len {seen : List Nat} {n : Nat} (hn : seen.Nodup) (hlt : ∀ b ∈ seen, b < n) : seen.length ≤ n := by
  have h1 : (seen.map Int.ofNat).Nodup := List.pairwise_map.2 (hn.imp fun h e => h (Int.ofNat.inj e))
  have h2 := nodup_len h1 (m := allI n) fun x hx => by
    obtain ⟨b, hb, rfl⟩ := List.mem_map.1 hx
    have := hlt b hb
    exact mem_allI.2 ⟨by simp, by simpa using this⟩
  simpa [allI] using h2
end Go.Proofs.T1
/- 'clear' of a part of an array of one's own. -/
namespace Go.Vc
open Go.RowKit Go.Lib
variable {P : Program} {n0 : Nat} {r : Option Nat}
theorem tad_get {α : Type} (cur vs : List α) (o : Nat) (h : o + vs.length ≤ cur.length) (j : Nat) : (cur.take o ++ vs ++ cur.drop (o + vs.length))[j]? = if o ≤ j ∧ j < o + vs.length then vs[j - o]? else cur[j]? := by
  have hlen : (cur.take o ++ vs).length = o + vs.length := by simp; omega
  by_cases h1 : j < o
  · rw [if_neg (by omega), List.getElem?_append_left (by omega), List.getElem?_append_left (by simp; omega), List.getElem?_take, if_pos h1]
  · by_cases h2 : j < o + vs.length
    · rw [if_pos ⟨by omega, h2⟩, List.getElem?_append_left (by omega), List.getElem?_append_right (by simp; omega)]
      congr 1
      simp
      omega
    · rw [if_neg (by omega), List.getElem?_append_right (by omega), List.getElem?_drop]
      congr 1
      omega
theorem run_clear_row {t e ty : TypeId} {z : Value} {w : World} {b o n c : Nat} {cur : Array Value} {tc : TypeId} (ht : P.underlying t = some (.slice e)) (hz : tzero1 P e = some z) (hn : 0 < n) (hg : w.heap[b]? = some (.cells cur tc (0, 0))) (hle : o + n ≤ cur.size) :
    (Builtin.clear_ #[t] ty #[.slice (some ⟨b, o, none⟩) n c]).run P w = .ok (.tuple #[]) (w.setRow b (cur.toList.take o ++ List.replicate n z ++ cur.toList.drop (o + n)).toArray) := by
  obtain ⟨hv, h1⟩ := run_zero1 hz w
  have hcells : z.cells = #[z] := by cases z <;> first | rfl | simp [Value.oneCell'] at h1
  have hzc : (Builtin.zeroCells z.cells n).toList = List.replicate n z := by
    rw [hcells]
    simp [Builtin.zeroCells]
    apply List.ext_getElem
    · simp
    · intro i h1 h2
      simp [Nat.mod_one]
  have hst := run_storeCells_at P b o tc (List.replicate n z) 0 cur w hg (by simpa using hle) (by intro v hv'; rw [List.eq_of_mem_replicate hv']; exact h1)
  simp only [Nat.add_zero, List.length_replicate] at hst
  obtain ⟨m, rfl⟩ : ∃ m, n = m + 1 := ⟨n - 1, by omega⟩
  simp [Builtin.clear_, run_underlying ht, hv, hzc, hst]
theorem pwo_clear {o : Oper} {s : Operand} {t e id g off n ta : Nat} {z : Value} {xs : List (List PV)} {K : St → Prop} {st : St} (ho : o.op = .call { callee := .builtin .clear, args := #[s], argTypes := #[t] })
    (ht : P.underlying t = some (.slice e)) (hz : tzero1 P e = some z) (hn : 0 < n) (hs : st.ev s = some (.loc 1 id g off n)) (hl : lk id st.h = some (.arr ta 1 g false xs)) (hle : off + n ≤ xs.length) (hf : st.fits o.dst = true)
    (hK : K ((st.upd id (.arr ta 1 g false (xs.take off ++ List.replicate n [.lit z] ++ xs.drop (off + n)))).put o.dst (.tup []))) : PWo P n0 r o K st := by
  refine pwo_run (fun c hc => by rw [ho] at hc; cases hc) fun I φ a w hR hn0 => ?_
  obtain ⟨_, h1⟩ := run_zero1 hz w
  obtain ⟨h0, hes, hB⟩ := hR.rh.blk _ _ hl
  have hsv := ev_ok hR hs
  generalize hev : a.eval s = v at hsv
  cases hsv with
  | locNil => omega
  | loc _ _ _ _ _ b c A hφ hlc hmx hA =>
    rcases hB with ⟨e0, _⟩ | ⟨b', c', vs, e1, e2, e3, e4, e5, e6, e7⟩
    · rw [hφ] at e0; cases e0
    rw [hφ] at e1
    cases e1
    obtain rfl := hA (.inl (by omega))
    simp only [Nat.mul_one] at e3 hev ⊢
    have hrun := run_clear_row (P := P) (ty := o.type) (c := c - off) ht hz hn e2 (o := off) (by omega)
    have hmb : ∀ ys, mblk φ id (.arr ta 1 g false ys) = some b := fun ys => by simp [mblk, hφ]
    have hI : ∀ k κ, I k κ → (w.setRow b (vs.toList.take off ++ List.replicate n z ++ vs.toList.drop (off + n)).toArray).heap[k]? = w.heap[k]? := fun k κ hk => setRow_other w b k _ fun e => (hR.rh.mlt _ _ b hl (hmb _)).2 κ (e ▸ hk)
    have hup := hR.upd (n0 := n0) (w' := w.setRow b (vs.toList.take off ++ List.replicate n z ++ vs.toList.drop (off + n)).toArray) (blk' := .arr ta 1 g false (xs.take off ++ List.replicate n [.lit z] ++ xs.drop (off + n))) hl (hmb _) ⟨rfl, rfl, rfl, run_drawn _ hrun, setRow_size _ _ _⟩ (fun k hk => setRow_other w b k _ hk)
      ⟨h0, fun x hx => ?_, .inr ⟨b, c, _, hφ, setRow_heap w b vs _ _ _ e2, ?_, ?_, e5, fun k j p hp => ?_, by simp⟩⟩ rfl (hmb _)
    · refine ⟨.value (.tuple #[]), _, ?_, .inl ⟨_, rfl, _, I, φ, hK, hup.1.put (by rw [fits_upd]; exact hf) (.tup [] [] rfl (fun j sv u hj => by simp at hj)), by cases o.dst <;> exact hn0, ?_⟩⟩
      · unfold execOp
        simp [ho, resolve, invoke, builtin, hev, hrun]
      · have : ((st.upd id (.arr ta 1 g false (xs.take off ++ List.replicate n [.lit z] ++ xs.drop (off + n)))).put o.dst (.tup [])).h = (st.upd id (.arr ta 1 g false (xs.take off ++ List.replicate n [.lit z] ++ xs.drop (off + n)))).h := by cases o.dst <;> rfl
        rw [this]
        exact hup.2
    · rcases List.mem_append.1 hx with hx | hx
      · rcases List.mem_append.1 hx with hx | hx
        · exact hes x (List.mem_of_mem_take hx)
        · rw [List.eq_of_mem_replicate hx]; rfl
      · exact hes x (List.mem_of_mem_drop hx)
    · simp; omega
    · simp; omega
    · have hg := tad_get xs (List.replicate n [PV.lit z]) off (by simpa using hle) k
      have hgv := tad_get vs.toList (List.replicate n z) off (by simp; omega) k
      simp only [List.length_replicate] at hg hgv
      unfold get2 at hp
      rw [hg] at hp
      have hj0 : j = 0 := by
        obtain ⟨y, hy, hj⟩ := Option.bind_eq_some_iff.1 hp
        have hyl : y.length = 1 := by
          split at hy
          · rw [List.eq_of_mem_replicate (List.mem_of_getElem? hy)]; rfl
          · exact hes y (List.mem_of_getElem? hy)
        have := (List.getElem?_eq_some_iff.1 hj).1
        omega
      subst hj0
      rw [Nat.mul_one, Nat.add_zero, List.getElem?_toArray, hgv]
      split at hp
      · rename_i hc
        rw [if_pos hc]
        rw [List.getElem?_replicate, if_pos (by omega)] at hp ⊢
        simp at hp
        subst hp
        exact ⟨z, rfl, .lit _ h1⟩
      · rename_i hc
        rw [if_neg hc]
        obtain ⟨u, hu, hr⟩ := e6 k 0 p hp
        rw [Nat.mul_one, Nat.add_zero] at hu
        exact ⟨u, by simpa using hu, hr.mono hI fun _ _ h => h⟩
end Go.Vc
namespace Go.Vc
open Go.RowKit Go.Lib
variable {P : Program} {n0 : Nat} {r : Option Nat}
theorem pwl_clear {ops : Array Oper} {o : Oper} {l : List Oper} {s : Operand} {t e id g off n ta : Nat} {z : Value} {xs : List (List PV)} {K : St → Prop} {st : St} (hg : gate ops st o = some true) (ho : o.op = .call { callee := .builtin .clear, args := #[s], argTypes := #[t] })
    (ht : P.underlying t = some (.slice e)) (hz : tzero1 P e = some z) (hn : 0 < n) (hs : st.ev s = some (.loc 1 id g off n)) (hl : lk id st.h = some (.arr ta 1 g false xs)) (hle : off + n ≤ xs.length) (hf : st.fits o.dst = true)
    (hK : PWl P n0 r ops l K ((st.upd id (.arr ta 1 g false (xs.take off ++ List.replicate n [.lit z] ++ xs.drop (off + n)))).put o.dst (.tup []))) : PWl P n0 r ops (o :: l) K st :=
  gate_true hg hf fun _ hK' => pwo_clear ho ht hz hn hs hl hle hf (hK' _ hK)
end Go.Vc
namespace Go.Proofs.T1
open Go.Vc
open Tryz
set_option linter.unusedSimpArgs false
set_option linter.unusedVariables false
set_option maxHeartbeats 4000000
set_option maxRecDepth 20000
attribute [local simp] runD_nil runD_cons runDO runDG runDV stabs stabO stabG runK_nil runK_cons runG_t runG_f runS_some runS_none gate dstOf step2 step1 vq vop vlook mput mfind isKeyB keq fin1 hbox halloc hstore hbuild hbuildSlice happend hmake vslice bound vbuild partsOf elemsOf inOrder topvs toPV svCells splice srcOf isNil St.ev St.evs St.fits St.put St.new St.upd St.frzs St.frz lk hset litOf vbuiltin vlen vbin vindex vfield vload rdc pvs capsOf Value.oneCell'
attribute [local simp] tsz3 tagg3 tbytes3 tint3 tzero3 tzero1_3 tsz4 tagg4 tbytes4 tbool4 tzero4 tzero1_4 tsz5 tagg5 tbytes5 tint5 tzero5 tzero1_5 tsz9 tagg9 tbytes9 tstr9 tzero9 tzero1_9 tsz22 tagg22 tel22 tbytes22 tzero22 tzero1_22 tsz23 tagg23 tel23 tbytes23 tzero23 tzero1_23 tsz24 tagg24 tel24 tbytes24 tzero24 tzero1_24 tsz25 tagg25 tbytes25 tzero25 tzero1_25 tsz29 tagg29 tel29 tbytes29 tzero29 tzero1_29 tsz30 tagg30 tel30 tbytes30 tzero30 tzero1_30 tsz32 tagg32 tbytes32 tzero32 foff32_0 foff32_1 foff32_2 foff32_3 foff32_4 foff32_5 foff32_6 foff32_7 foff32_8 foff32_9 tsz33 tagg33 tel33 tbytes33 tzero33 tzero1_33 tsz34 tagg34 tbytes34 tint34 tzero34 tzero1_34 tsz38 tagg38 tbytes38 tzero38 foff38_0 foff38_1 foff38_2 tsz47 tagg47 tel47 tbytes47 tzero47 tzero1_47 tsz52 tagg52 tel52 tbytes52 tzero52 tzero1_52 tsz54 tagg54 tbytes54 tzero54 foff54_0 foff54_1 foff54_2 foff54_3 foff54_4 foff54_5 tsz79 tagg79 tbytes79 tzero79 foff79_0 foff79_1 foff79_2 tsz117 tagg117 tbytes117 tzero117 foff117_0 foff117_1 foff117_2 tsz119 tagg119 tbytes119 tzero119 foff119_0 foff119_1 tsz121 tagg121 tbytes121 tzero121 foff121_0 foff121_1 foff121_2 foff121_3 tsz129 tagg129 tbytes129 tzero129 tzero1_129 tsz130 tagg130 tbytes130 tzero130 tzero1_130 tsz132 tagg132 tbytes132 tzero132 tzero1_132 tsz206 tagg206 tbytes206 tzero206 tzero1_206 mtype206 tsz208 tagg208 tbytes208 tsz217 tagg217 tel217 tbytes217 tzero217 tzero1_217 tsz220 tagg220 tbytes220 tzero220 foff220_0 foff220_1 tsz235 tagg235 tel235 tbytes235 tzero235 tzero1_235 tsz256 tagg256 tbytes256 tzero256 tzero1_256 mtype256 tsz351 tagg351 tbytes351 tzero351 tsz2 tagg2 tbytes2 tint2 tzero2 tzero1_2 tsz291 tagg291 tbytes291 tint291 tzero291 tzero1_291 sized32 places32_0 places32_1 places32_2 places32_3 places32_4 places32_5 places32_6 places32_7 places32_8 places32_9 sized38 places38_0 places38_1 places38_2 sized54 places54_0 places54_1 places54_2 places54_3 places54_4 places54_5 sized79 places79_0 places79_1 places79_2 sized117 places117_0 places117_1 places117_2 sized119 places119_0 places119_1 sized121 places121_0 places121_1 places121_2 places121_3 sized220 places220_0 places220_1
section
attribute [local simp] V.c V.z Sd.c Tst.c Fx.c Rl.c Fc.c Gr.c wrap1f take_map_len take_map_len1 wrap1 wrap2 wrap3
theorem enters40 : Enters Tryz.prog 40 := enters_mk Tryz.func40 (by kernel_rfl) (by kernel_rfl)
theorem enters91 : Enters Tryz.prog 91 := enters_mk Tryz.func91 (by kernel_rfl) (by kernel_rfl)
theorem enters92 : Enters Tryz.prog 92 := enters_mk Tryz.func92 (by kernel_rfl) (by kernel_rfl)
theorem enters153 : Enters Tryz.prog 153 := enters_mk Tryz.func153 (by kernel_rfl) (by kernel_rfl)
theorem enters140 : Enters Tryz.prog 140 := enters_mk Tryz.func140 (by kernel_rfl) (by kernel_rfl)
theorem enters141 : Enters Tryz.prog 141 := enters_mk Tryz.func141 (by kernel_rfl) (by kernel_rfl)
theorem und24 : Tryz.prog.underlying 24 = some (.slice 3) := by kernel_rfl
/-- A predicate over numbers, in a heap. -/
def PredC (gf : Nat) (caps : List (Nat × Nat)) (Hs : List (Nat × ABlk)) (p : Int → Bool) (l : List Int) (n : Nat) : Prop := ∀ x ∈ l, ∀ nx, n ≤ nx → PC Tryz.prog gf ([sint x] ++ capRefs caps) nx Hs (fun sv _ H' => sv = sbool (p x) ∧ H' = Hs)
def firstP (p : Int → Bool) (l : List Int) : Int := match l.findIdx? p with | some i => (i : Int) | none => -1
theorem firstP_some {p : Int → Bool} {l : List Int} {k : Nat} (h : k < l.length) (hp : p l[k] = true) (hn : ∀ i (h : i < l.length), i < k → p l[i] = false) : firstP p l = (k : Int) := by
  have : l.findIdx? p = some k := List.findIdx?_eq_some_iff_getElem.2 ⟨h, hp, fun j hj => by simp [hn j (by omega) hj]⟩
  simp [firstP, this]
theorem firstP_none {p : Int → Bool} {l : List Int} (hn : ∀ i (h : i < l.length), p l[i] = false) : firstP p l = -1 := by
  have : l.findIdx? p = none := List.findIdx?_eq_none_iff.2 fun x hx => by
    obtain ⟨i, hi, rfl⟩ := List.mem_iff_getElem.1 hx
    exact hn i hi
  simp [firstP, this]
theorem firstP_cases (p : Int → Bool) (l : List Int) : (firstP p l = -1 ∧ ∀ i (h : i < l.length), p l[i] = false) ∨ ∃ k, ∃ h : k < l.length, firstP p l = (k : Int) ∧ p l[k] = true ∧ ∀ i (h : i < l.length), i < k → p l[i] = false := by
  cases h : l.findIdx? p with
  | none =>
    left
    refine ⟨by simp [firstP, h], fun i hi => ?_⟩
    have := List.findIdx?_eq_none_iff.1 h l[i] (List.getElem_mem hi)
    simpa using this
  | some k =>
    right
    obtain ⟨h1, h2, h3⟩ := List.findIdx?_eq_some_iff_getElem.1 h
    exact ⟨k, h1, by simp [firstP, h], h2, fun i hi hk => by simpa using h3 i hk⟩
theorem firstP_any (p : Int → Bool) (l : List Int) : decide (0 ≤ firstP p l) = l.any p := by
  rcases firstP_cases p l with ⟨h1, h2⟩ | ⟨k, hk, h1, h2, _⟩
  · have : l.any p = false := by
      rw [List.any_eq_false]
      intro x hx
      obtain ⟨i, hi, rfl⟩ := List.mem_iff_getElem.1 hx
      simp [h2 i hi]
    rw [h1, this]; decide
  · have : l.any p = true := List.any_eq_true.2 ⟨l[k], List.getElem_mem hk, h2⟩
    rw [h1, this]; simp
theorem indexFunc_pc (gf : Nat) (caps : List (Nat × Nat)) (Hs : List (Nat × ABlk)) (p : Int → Bool) (l : List Int) (nx : Nat) (hp : PredC gf caps Hs p l nx) (hl : l.length ≤ 1000000) :
    PC Tryz.prog 153 [.pv (.sl 1 (ints l)), .clos gf caps] nx Hs (fun sv _ H' => sv = sint (firstP p l) ∧ H' = Hs) := by
  refine pc_of_pw' (fn := Tryz.f153) Tryz.func153 rfl enters153 Tryz.ntmps153 (by simp [capRefs]) (pw_of_pws ?_)
  repeat' (first | with_reducible refine pws_seq ?_ | with_reducible refine pws_block ?_ | ((with_reducible refine pws_regk fun K' S hK' hS => ?_); simp [argSlots, *]) | ((with_reducible refine Goes.go hK' ?_); clear hK' hS; clear K' S))
  refine pws_loop (α := { v : Nat × Nat // v.1 ≤ l.length }) (fun v => { n := 19, nx := v.1.2, s := [(8, sint v.1.1), (7, sint l.length), (0, .pv (.sl 1 (ints l))), (1, .clos gf caps)], h := Hs, d := [] }) (fun v => l.length - v.1.1) (fun v => (∀ i (h : i < l.length), i < v.1.1 → p l[i] = false) ∧ nx ≤ v.1.2) ⟨(0, nx), by simp⟩ ⟨by simp, by simp⟩ (ent_keep rfl rfl rfl (fun t sv h => SubL.get (by simp [SubL, *]) h) (fun i b h => h)) ?_
  rintro ⟨⟨k, nx1⟩, hk⟩ ⟨hz, hn1⟩ K hK
  simp only at hk hz hn1
  by_cases h1 : k < l.length
  · have hw := wrap64_id (n := (k : Int) + 1) (by omega)
    have hpk := hp l[k] (List.getElem_mem h1) nx1 hn1
    repeat' (first | with_reducible refine pws_seq ?_ | with_reducible refine pws_skip ?_ | with_reducible refine pws_block ?_ | ((with_reducible refine pws_regk fun K' S hK' hS => ?_); simp [argSlots, *]) | ((with_reducible refine Goes.go hK' ?_); clear hK' hS; clear K' S) | ((with_reducible refine GoesS.go hS ?_); clear hK' hS; clear K' S) | ((with_reducible refine pws_true ?_ ?_); (· simp; done)))
    refine pwl_callpk (c := ?_) (x := ?_) (f := gf) (caps := caps) (svs := [sint l[k]]) (own := []) (Hs := Hs) (Qr := _) ?_ ?_ ?_ ?_ ?_ ?_ (fun i b h => h) (fun i b h => by simp only [List.cons_append, List.nil_append, lk] at h ⊢; (repeat' split at h) <;> (try subst_vars) <;> first | (subst_vars; simp [*]; done) | (simp_all; done) | (simp_all; omega)) (hpk) ?_; rotate_left 2; (· first | rfl | (simp [*]; done)); (· rfl); (· rfl); (· first | rfl | (simp; done)); (· first | rfl | (simp; done)); (· rfl); rintro sv nx' H' hq hn hd
    obtain ⟨rfl, rfl⟩ := hq
    simp only at hn
    clear hpk
    cases hpv : p l[k] with
    | true =>
      have hf := firstP_some h1 hpv hz
      clear hz hp hK
      refine pwl_runk fun K' S hK' hS => ?_; simp [*]
      repeat' (first | with_reducible refine pws_seq ?_ | ((with_reducible refine pws_regk fun K' S hK' hS => ?_); simp [argSlots, *]) | ((with_reducible refine Goes.go hK' ?_); clear hK' hS; clear K' S) | ((with_reducible refine pws_true ?_ ?_); (· simp; done)) | with_reducible refine pws_ret ?_ | with_reducible refine blk_ret ?_ | with_reducible refine thenQ_ret ?_)
      all_goals (refine finP_ret (vs := ?_) [] (by first | exact .inr rfl | exact .inl rfl) rfl ?_ ?_; rotate_left; (· simp [Tryz.results153, resL, resOf, *]; rfl); (· first | (simp [wrapRes, cv, hf, *]; done) | (simp [wrapRes, cv, hf, *]; grind) | (simp [wrapRes, cv, hf, *]; omega)))
    | false =>
      have hz' : ∀ i (h : i < l.length), i < k + 1 → p l[i] = false := fun i h hi => by
        by_cases e : i = k
        · subst e; exact hpv
        · exact hz i h (by omega)
      clear hz hp
      refine pwl_runk fun K' S hK' hS => ?_; simp [*]
      repeat' (first | with_reducible refine pws_skip ?_ | ((with_reducible refine pws_regk fun K' S hK' hS => ?_); simp [argSlots, *]) | ((with_reducible refine Goes.go hK' ?_); clear hK' hS; clear K' S) | ((with_reducible refine pws_false ?_ ?_); (· simp; done)) | with_reducible refine blk_normal ?_ | with_reducible refine thenQ_normal ?_ | with_reducible refine pws_nil ?_)
      refine hK _ ⟨(k + 1, nx'), by simp; omega⟩ (ent_keep rfl rfl rfl (fun t sv h => SubL.get (by simp [SubL, *]) h) (fun i b h => h)) ⟨hz', by simp; omega⟩ (by simp; omega)
  · have hf := firstP_none (p := p) (l := l) fun i h => hz i h (by omega)
    clear hz hp hK
    repeat' (first | with_reducible refine pws_seq ?_ | ((with_reducible refine pws_regk fun K' S hK' hS => ?_); simp [argSlots, *]) | ((with_reducible refine Goes.go hK' ?_); clear hK' hS; clear K' S) | ((with_reducible refine pws_false ?_ ?_); (· simp; done)) | with_reducible refine pws_ret ?_ | with_reducible refine blk_same ?_ | with_reducible refine thenQ_exit ?_ | with_reducible refine pws_exit ?_)
    all_goals (refine finP_ret (vs := ?_) [] (by first | exact .inr rfl | exact .inl rfl) rfl ?_ ?_; rotate_left; (· simp [Tryz.results153, resL, resOf, *]; rfl); (· first | (simp [wrapRes, cv, hf, *]; done) | (simp [wrapRes, cv, hf, *]; grind) | (simp [wrapRes, cv, hf, *]; omega)))
theorem indexFuncA_pc (gf : Nat) (caps : List (Nat × Nat)) (Hs : List (Nat × ABlk)) (p : Int → Bool) (l : List Int) (id g nx : Nat) (hp : PredC gf caps Hs p l nx) (hl : l.length ≤ 1000000) (hid : lk id Hs = none) :
    PC Tryz.prog 153 [.loc 1 id g 0 l.length, .clos gf caps] nx ((id, .arr 3 1 g false (ints l)) :: Hs) (fun sv _ H' => sv = sint (firstP p l) ∧ H' = (id, .arr 3 1 g false (ints l)) :: Hs) := by
  refine pc_of_pw' (fn := Tryz.f153) Tryz.func153 rfl enters153 Tryz.ntmps153 (by simp [capRefs]) (pw_of_pws ?_)
  repeat' (first | with_reducible refine pws_seq ?_ | with_reducible refine pws_block ?_ | ((with_reducible refine pws_regk fun K' S hK' hS => ?_); simp [argSlots, *]) | ((with_reducible refine Goes.go hK' ?_); clear hK' hS; clear K' S))
  refine pws_loop (α := { v : Nat × Nat // v.1 ≤ l.length }) (fun v => { n := 19, nx := v.1.2, s := [(8, sint v.1.1), (7, sint l.length), (0, .loc 1 id g 0 l.length), (1, .clos gf caps)], h := (id, .arr 3 1 g false (ints l)) :: Hs, d := [] }) (fun v => l.length - v.1.1) (fun v => (∀ i (h : i < l.length), i < v.1.1 → p l[i] = false) ∧ nx ≤ v.1.2) ⟨(0, nx), by simp⟩ ⟨by simp, by simp⟩ (ent_keep rfl rfl rfl (fun t sv h => SubL.get (by simp [SubL, *]) h) (fun i b h => h)) ?_
  rintro ⟨⟨k, nx1⟩, hk⟩ ⟨hz, hn1⟩ K hK
  simp only at hk hz hn1
  by_cases h1 : k < l.length
  · have hw := wrap64_id (n := (k : Int) + 1) (by omega)
    have hpk := hp l[k] (List.getElem_mem h1) nx1 hn1
    repeat' (first | with_reducible refine pws_seq ?_ | with_reducible refine pws_skip ?_ | with_reducible refine pws_block ?_ | ((with_reducible refine pws_regk fun K' S hK' hS => ?_); simp [argSlots, *]) | ((with_reducible refine Goes.go hK' ?_); clear hK' hS; clear K' S) | ((with_reducible refine GoesS.go hS ?_); clear hK' hS; clear K' S) | ((with_reducible refine pws_true ?_ ?_); (· simp; done)))
    refine pwl_callpk (c := ?_) (x := ?_) (f := gf) (caps := caps) (svs := [sint l[k]]) (own := [(id, .arr 3 1 g false (ints l))]) (Hs := Hs) (Qr := _) ?_ ?_ ?_ ?_ ?_ ?_ (fun i b h => h) (fun i b h => by simp only [List.cons_append, List.nil_append, lk] at h ⊢; (repeat' split at h) <;> (try subst_vars) <;> first | (subst_vars; simp [*]; done) | (simp_all; done) | (simp_all; omega)) (hpk) ?_; rotate_left 2; (· first | rfl | (simp [*]; done)); (· rfl); (· rfl); (· first | rfl | (simp; done)); (· first | rfl | (simp; done)); (· rfl); rintro sv nx' H' hq hn hd
    obtain ⟨rfl, rfl⟩ := hq
    simp only at hn
    clear hpk
    cases hpv : p l[k] with
    | true =>
      have hf := firstP_some h1 hpv hz
      clear hz hp hK
      refine pwl_runk fun K' S hK' hS => ?_; simp [*]
      repeat' (first | with_reducible refine pws_seq ?_ | ((with_reducible refine pws_regk fun K' S hK' hS => ?_); simp [argSlots, *]) | ((with_reducible refine Goes.go hK' ?_); clear hK' hS; clear K' S) | ((with_reducible refine pws_true ?_ ?_); (· simp; done)) | with_reducible refine pws_ret ?_ | with_reducible refine blk_ret ?_ | with_reducible refine thenQ_ret ?_)
      all_goals (refine finP_ret (vs := ?_) [] (by first | exact .inr rfl | exact .inl rfl) rfl ?_ ?_; rotate_left; (· simp [Tryz.results153, resL, resOf, *]; rfl); (· first | (simp [wrapRes, cv, hf, *]; done) | (simp [wrapRes, cv, hf, *]; grind) | (simp [wrapRes, cv, hf, *]; omega)))
    | false =>
      have hz' : ∀ i (h : i < l.length), i < k + 1 → p l[i] = false := fun i h hi => by
        by_cases e : i = k
        · subst e; exact hpv
        · exact hz i h (by omega)
      clear hz hp
      refine pwl_runk fun K' S hK' hS => ?_; simp [*]
      repeat' (first | with_reducible refine pws_skip ?_ | ((with_reducible refine pws_regk fun K' S hK' hS => ?_); simp [argSlots, *]) | ((with_reducible refine Goes.go hK' ?_); clear hK' hS; clear K' S) | ((with_reducible refine pws_false ?_ ?_); (· simp; done)) | with_reducible refine blk_normal ?_ | with_reducible refine thenQ_normal ?_ | with_reducible refine pws_nil ?_)
      refine hK _ ⟨(k + 1, nx'), by simp; omega⟩ (ent_keep rfl rfl rfl (fun t sv h => SubL.get (by simp [SubL, *]) h) (fun i b h => h)) ⟨hz', by simp; omega⟩ (by simp; omega)
  · have hf := firstP_none (p := p) (l := l) fun i h => hz i h (by omega)
    clear hz hp hK
    repeat' (first | with_reducible refine pws_seq ?_ | ((with_reducible refine pws_regk fun K' S hK' hS => ?_); simp [argSlots, *]) | ((with_reducible refine Goes.go hK' ?_); clear hK' hS; clear K' S) | ((with_reducible refine pws_false ?_ ?_); (· simp; done)) | with_reducible refine pws_ret ?_ | with_reducible refine blk_same ?_ | with_reducible refine thenQ_exit ?_ | with_reducible refine pws_exit ?_)
    all_goals (refine finP_ret (vs := ?_) [] (by first | exact .inr rfl | exact .inl rfl) rfl ?_ ?_; rotate_left; (· simp [Tryz.results153, resL, resOf, *]; rfl); (· first | (simp [wrapRes, cv, hf, *]; done) | (simp [wrapRes, cv, hf, *]; grind) | (simp [wrapRes, cv, hf, *]; omega)))
theorem containsFunc_pc (gf : Nat) (caps : List (Nat × Nat)) (Hs : List (Nat × ABlk)) (p : Int → Bool) (l : List Int) (nx : Nat) (hp : PredC gf caps Hs p l nx) (hl : l.length ≤ 1000000) :
    PC Tryz.prog 91 [.pv (.sl 1 (ints l)), .clos gf caps] nx Hs (fun sv _ H' => sv = sbool (l.any p) ∧ H' = Hs) := by
  have hcon := indexFunc_pc gf caps Hs p l nx hp hl
  have hany := firstP_any p l
  refine pc_of_pw' (fn := Tryz.f91) Tryz.func91 rfl enters91 Tryz.ntmps91 (by simp [capRefs]) (pw_of_pws ?_)
  repeat' (first | with_reducible refine pws_seq ?_ | ((with_reducible refine pws_regk fun K' S hK' hS => ?_); simp [argSlots, *]) | ((with_reducible refine Goes.go hK' ?_); clear hK' hS; clear K' S) | ((with_reducible refine GoesS.go hS ?_); clear hK' hS; clear K' S))
  refine pwl_callpk (c := ?_) (x := ?_) (f := 153) (caps := []) (svs := [.pv (.sl 1 (ints l)), .clos gf caps]) (own := []) (Hs := Hs) (Qr := _) ?_ ?_ ?_ ?_ ?_ ?_ (fun i b h => h) (fun i b h => by simp only [List.cons_append, List.nil_append, lk] at h ⊢; (repeat' split at h) <;> (try subst_vars) <;> first | (subst_vars; simp [*]; done) | (simp_all; done) | (simp_all; omega)) (by simpa [capRefs] using hcon) ?_; rotate_left 2; (· first | rfl | (simp [*]; done)); (· rfl); (· rfl); (· first | rfl | (simp; done)); (· first | rfl | (simp; done)); (· rfl); rintro sv nx' H' hq hn hd
  obtain ⟨rfl, rfl⟩ := hq
  clear hcon
  refine pwl_runk fun K' S hK' hS => ?_; simp [*]
  repeat' (first | ((with_reducible refine Goes.go hK' ?_); clear hK' hS; clear K' S) | with_reducible refine pws_ret ?_)
  all_goals (refine finP_ret (vs := ?_) [] (by first | exact .inr rfl | exact .inl rfl) rfl ?_ ?_; rotate_left; (· simp [Tryz.results91, resL, resOf, *]; rfl); (· first | (simp [wrapRes, cv, hany, *]; done) | (simp [wrapRes, cv, hany, *]; grind) | (simp [wrapRes, cv, hany, *]; omega)))
/-- What stays of the first ones. -/
def kept (p : Int → Bool) (l : List Int) (j : Nat) : List Int := (l.take j).filter fun x => !p x
theorem kept_succ {p : Int → Bool} {l : List Int} {j : Nat} (h : j < l.length) : kept p l (j + 1) = if p l[j] then kept p l j else kept p l j ++ [l[j]] := by
  unfold kept
  rw [List.take_succ_eq_append_getElem h, List.filter_append]
  cases hp : p l[j] <;> simp [hp]
theorem kept_len (p : Int → Bool) (l : List Int) (j : Nat) : (kept p l j).length ≤ j := by
  unfold kept
  exact Nat.le_trans (List.length_filter_le _ _) (by simp; omega)
theorem kept_first {p : Int → Bool} {l : List Int} {k : Nat} (hz : ∀ i (h : i < l.length), i < k → p l[i] = false) : kept p l k = l.take k := by
  unfold kept
  refine List.filter_eq_self.2 fun x hx => ?_
  obtain ⟨i, hi, rfl⟩ := List.mem_iff_getElem.1 hx
  simp only [List.length_take] at hi
  rw [List.getElem_take, hz i (by omega) (by omega)]
  rfl
/-- The array behind j steps. -/
structure DelI (p : Int → Bool) (l A : List Int) (j : Nat) : Prop where
  len : A.length = l.length
  lt : (kept p l j).length < j
  pre : A.take (kept p l j).length = kept p l j
  suf : ∀ i, j ≤ i → A[i]? = l[i]?
theorem DelI.start {p : Int → Bool} {l : List Int} {k : Nat} (h : k < l.length) (hp : p l[k] = true) (hz : ∀ i (h : i < l.length), i < k → p l[i] = false) : DelI p l l (k + 1) := by
  have h1 : kept p l (k + 1) = l.take k := by rw [kept_succ h, hp, if_pos rfl, kept_first hz]
  refine ⟨rfl, ?_, ?_, fun _ _ => rfl⟩
  · rw [h1]; simp; omega
  · rw [h1]; congr 1; simp; omega
theorem DelI.skip {p : Int → Bool} {l A : List Int} {j : Nat} (h : DelI p l A j) (hj : j < l.length) (hp : p l[j] = true) : DelI p l A (j + 1) := by
  have h1 : kept p l (j + 1) = kept p l j := by rw [kept_succ hj, hp, if_pos rfl]
  exact ⟨h.len, by rw [h1]; have := h.lt; omega, by rw [h1]; exact h.pre, fun i hi => h.suf i (by omega)⟩
theorem DelI.put {p : Int → Bool} {l A : List Int} {j : Nat} (h : DelI p l A j) (hj : j < l.length) (hp : p l[j] = false) : DelI p l (A.set (kept p l j).length l[j]) (j + 1) := by
  have h1 : kept p l (j + 1) = kept p l j ++ [l[j]] := by rw [kept_succ hj, hp]; rfl
  have hlt := h.lt
  have hlen := h.len
  refine ⟨by simp [h.len], by rw [h1]; simp; omega, ?_, fun i hi => ?_⟩
  · rw [h1, List.length_append, List.length_singleton, List.take_succ_eq_append_getElem (by simp; omega), List.take_set_of_le (Nat.le_refl _), h.pre]
    simp
  · rw [List.getElem?_set_ne (by omega)]
    exact h.suf i (by omega)
theorem deleteFunc_pc (gf : Nat) (caps : List (Nat × Nat)) (Hs : List (Nat × ABlk)) (p : Int → Bool) (l : List Int) (id g nx : Nat) (hp : PredC gf caps Hs p l nx) (hl : l.length ≤ 1000000) (hid : lk id Hs = none) :
    PC Tryz.prog 92 [.loc 1 id g 0 l.length, .clos gf caps] nx ((id, .arr 3 1 g false (ints l)) :: Hs) (fun sv _ H' => ∃ A : List Int, A.length = l.length ∧ A.take (l.filter fun x => !p x).length = l.filter (fun x => !p x) ∧ sv = .loc 1 id g 0 (l.filter fun x => !p x).length ∧ H' = (id, .arr 3 1 g false (ints A)) :: Hs) := by
  have hcon := indexFuncA_pc gf caps Hs p l id g nx hp hl hid
  have hkl : kept p l l.length = l.filter fun x => !p x := by unfold kept; rw [List.take_length]
  refine pc_of_pw' (fn := Tryz.f92) Tryz.func92 rfl enters92 Tryz.ntmps92 (by simp [capRefs]) (pw_of_pws ?_)
  rcases firstP_cases p l with ⟨e1, hz⟩ | ⟨k0, hk0, e1, hpk, hz⟩
  · have hfl : (l.filter fun x => !p x) = l := List.filter_eq_self.2 fun x hx => by
      obtain ⟨i, hi, rfl⟩ := List.mem_iff_getElem.1 hx
      rw [hz i hi]; rfl
    rw [e1] at hcon
    clear hkl hp hz
    repeat' (first | with_reducible refine pws_seq ?_ | ((with_reducible refine pws_regk fun K' S hK' hS => ?_); simp [argSlots, *]) | ((with_reducible refine Goes.go hK' ?_); clear hK' hS; clear K' S) | ((with_reducible refine GoesS.go hS ?_); clear hK' hS; clear K' S))
    refine pwl_callpk (c := ?_) (x := ?_) (f := 153) (caps := []) (svs := [.loc 1 id g 0 l.length, .clos gf caps]) (own := []) (Hs := (id, .arr 3 1 g false (ints l)) :: Hs) (Qr := _) ?_ ?_ ?_ ?_ ?_ ?_ (fun i b h => h) (fun i b h => by simp only [List.cons_append, List.nil_append, lk] at h ⊢; (repeat' split at h) <;> (try subst_vars) <;> first | (subst_vars; simp [*]; done) | (simp_all; done) | (simp_all; omega)) (by simpa [capRefs] using hcon) ?_; rotate_left 2; (· first | rfl | (simp [*]; done)); (· rfl); (· rfl); (· first | rfl | (simp; done)); (· first | rfl | (simp; done)); (· rfl); rintro sv nx' H' hq hn hd
    obtain ⟨rfl, rfl⟩ := hq
    clear hcon
    refine pwl_runk fun K' S hK' hS => ?_; simp [*]
    repeat' (first | with_reducible refine pws_seq ?_ | ((with_reducible refine pws_regk fun K' S hK' hS => ?_); simp [argSlots, *]) | ((with_reducible refine Goes.go hK' ?_); clear hK' hS; clear K' S) | ((with_reducible refine pws_true ?_ ?_); (· simp; done)) | with_reducible refine pws_ret ?_)
    refine finP_ret (vs := ?_) [] (.inr rfl) rfl ?_ ?_
    rotate_left
    · simp [Tryz.results92, resL, resOf]; rfl
    · refine ⟨l, rfl, ?_, ?_, rfl⟩
      · rw [hfl]; exact List.take_length
      · rw [hfl]; simp [wrapRes, cv, toPV, lk]
  · rw [e1] at hcon
    have hst := DelI.start hk0 hpk hz
    have hkk : (kept p l (k0 + 1)).length = k0 := by
      rw [kept_succ hk0, hpk, if_pos rfl, kept_first hz]; simp; omega
    have hw0 := wrap64_id (n := (k0 : Int) + 1) (by omega)
    clear hpk hz e1
    repeat' (first | with_reducible refine pws_seq ?_ | ((with_reducible refine pws_regk fun K' S hK' hS => ?_); simp [argSlots, *]) | ((with_reducible refine Goes.go hK' ?_); clear hK' hS; clear K' S) | ((with_reducible refine GoesS.go hS ?_); clear hK' hS; clear K' S))
    refine pwl_callpk (c := ?_) (x := ?_) (f := 153) (caps := []) (svs := [.loc 1 id g 0 l.length, .clos gf caps]) (own := []) (Hs := (id, .arr 3 1 g false (ints l)) :: Hs) (Qr := _) ?_ ?_ ?_ ?_ ?_ ?_ (fun i b h => h) (fun i b h => by simp only [List.cons_append, List.nil_append, lk] at h ⊢; (repeat' split at h) <;> (try subst_vars) <;> first | (subst_vars; simp [*]; done) | (simp_all; done) | (simp_all; omega)) (by simpa [capRefs] using hcon) ?_; rotate_left 2; (· first | rfl | (simp [*]; done)); (· rfl); (· rfl); (· first | rfl | (simp; done)); (· first | rfl | (simp; done)); (· rfl); rintro sv nx' H' hq hn hd
    obtain ⟨rfl, rfl⟩ := hq
    simp only at hn
    clear hcon
    refine pwl_runk fun K' S hK' hS => ?_; simp [*]
    repeat' (first | with_reducible refine pws_seq ?_ | with_reducible refine pws_skip ?_ | with_reducible refine pws_block ?_ | ((with_reducible refine pws_regk fun K' S hK' hS => ?_); simp [argSlots, *]) | ((with_reducible refine Goes.go hK' ?_); clear hK' hS; clear K' S) | ((with_reducible refine pws_false ?_ ?_); (· simp; done)))
    refine pws_loop (α := { v : Nat × Nat × List Int // v.1 ≤ l.length }) (fun v => { n := 42, nx := v.1.2.1, s := [(6, sint v.1.1), (5, sint (kept p l v.1.1).length), (0, .loc 1 id g 0 l.length), (1, .clos gf caps)], h := (id, .arr 3 1 g false (ints v.1.2.2)) :: Hs, d := [] }) (fun v => l.length - v.1.1) (fun v => DelI p l v.1.2.2 v.1.1 ∧ nx ≤ v.1.2.1) ⟨(k0 + 1, nx', l), by simp; omega⟩ ⟨hst, by simp; omega⟩ (ent_keep rfl rfl rfl (fun t sv h => SubL.get (by simp [SubL, hkk, *]) h) (fun i b h => h)) ?_
    clear hst hkk hn hw0
    rintro ⟨⟨j, nx1, A⟩, hj⟩ ⟨hA, hn1⟩ K hK
    simp only at hj hA hn1
    have hAl := hA.len
    have hkl2 := kept_len p l j
    by_cases h1 : j < l.length
    · have hw := wrap64_id (n := (j : Int) + 1) (by omega)
      have hw2 := wrap64_id (n := ((kept p l j).length : Int) + 1) (by omega)
      have hAj : A[j]? = some l[j] := by rw [hA.suf j (Nat.le_refl _)]; exact List.getElem?_eq_getElem h1
      have hjA : j < A.length := by omega
      have hAj' : A[j] = l[j] := by rw [List.getElem?_eq_getElem hjA] at hAj; exact Option.some.inj hAj
      have hpk := hp l[j] (List.getElem_mem h1) nx1 hn1
      have hks := kept_succ (p := p) h1
      cases hpv : p l[j] with
      | true =>
        have hA' := hA.skip h1 hpv
        rw [hpv, if_pos rfl] at hks
        clear hp hA hAj hkl
        repeat' (first | with_reducible refine pws_seq ?_ | with_reducible refine pws_skip ?_ | with_reducible refine pws_block ?_ | ((with_reducible refine pws_regk fun K' S hK' hS => ?_); simp [argSlots, *]) | ((with_reducible refine Goes.go hK' ?_); clear hK' hS; clear K' S) | ((with_reducible refine GoesS.go hS ?_); clear hK' hS; clear K' S) | ((with_reducible refine pws_true ?_ ?_); (· simp; done)))
        refine pwl_callpk (c := ?_) (x := ?_) (f := gf) (caps := caps) (svs := [sint l[j]]) (own := [(id, .arr 3 1 g false (ints A))]) (Hs := Hs) (Qr := _) ?_ ?_ ?_ ?_ ?_ ?_ (fun i b h => h) (fun i b h => by simp only [List.cons_append, List.nil_append, lk] at h ⊢; (repeat' split at h) <;> (try subst_vars) <;> first | (subst_vars; simp [*]; done) | (simp_all; done) | (simp_all; omega)) (by rw [hpv] at hpk; exact hpk) ?_; rotate_left 2; (· first | rfl | (simp [*]; done)); (· rfl); (· rfl); (· first | rfl | (simp; done)); (· first | rfl | (simp; done)); (· rfl); rintro sv nx' H' hq hn hd
        obtain ⟨rfl, rfl⟩ := hq
        simp only at hn
        clear hpk
        refine pwl_runk fun K' S hK' hS => ?_; simp [*]
        repeat' (first | with_reducible refine pws_skip ?_ | ((with_reducible refine pws_regk fun K' S hK' hS => ?_); simp [argSlots, *]) | ((with_reducible refine Goes.go hK' ?_); clear hK' hS; clear K' S) | ((with_reducible refine pws_false ?_ ?_); (· simp; done)) | with_reducible refine blk_normal ?_ | with_reducible refine thenQ_normal ?_ | with_reducible refine pws_nil ?_)
        refine hK _ ⟨(j + 1, nx', A), by simp; omega⟩ (ent_keep rfl rfl rfl (fun t sv h => SubL.get (by simp [SubL, hks, *]) h) (fun i b h => h)) ⟨hA', by simp; omega⟩ (by simp; omega)
      | false =>
        have hA' := hA.put h1 hpv
        have hlt := hA.lt
        rw [hpv] at hks
        simp only [Bool.false_eq_true, if_false] at hks
        have hks2 : (kept p l (j + 1)).length = (kept p l j).length + 1 := by rw [hks]; simp
        have hset := ints_set A (kept p l j).length l[j]
        have hb1 : (kept p l j).length < l.length := by omega
        have hb2 : (kept p l j).length < A.length := by omega
        clear hp hA hAj hkl hks
        generalize (kept p l j).length = q at *
        repeat' (first | with_reducible refine pws_seq ?_ | with_reducible refine pws_skip ?_ | with_reducible refine pws_block ?_ | ((with_reducible refine pws_regk fun K' S hK' hS => ?_); simp [argSlots, *]) | ((with_reducible refine Goes.go hK' ?_); clear hK' hS; clear K' S) | ((with_reducible refine GoesS.go hS ?_); clear hK' hS; clear K' S) | ((with_reducible refine pws_true ?_ ?_); (· simp; done)))
        refine pwl_callpk (c := ?_) (x := ?_) (f := gf) (caps := caps) (svs := [sint l[j]]) (own := [(id, .arr 3 1 g false (ints A))]) (Hs := Hs) (Qr := _) ?_ ?_ ?_ ?_ ?_ ?_ (fun i b h => h) (fun i b h => by simp only [List.cons_append, List.nil_append, lk] at h ⊢; (repeat' split at h) <;> (try subst_vars) <;> first | (subst_vars; simp [*]; done) | (simp_all; done) | (simp_all; omega)) (by rw [hpv] at hpk; exact hpk) ?_; rotate_left 2; (· first | rfl | (simp [*]; done)); (· rfl); (· rfl); (· first | rfl | (simp; done)); (· first | rfl | (simp; done)); (· rfl); rintro sv nx' H' hq hn hd
        obtain ⟨rfl, rfl⟩ := hq
        simp only at hn
        clear hpk
        refine pwl_runk fun K' S hK' hS => ?_; simp [*]
        repeat' (first | with_reducible refine pws_seq ?_ | ((with_reducible refine pws_regk fun K' S hK' hS => ?_); simp [argSlots, *]) | ((with_reducible refine Goes.go hK' ?_); clear hK' hS; clear K' S) | ((with_reducible refine pws_true ?_ ?_); (· simp; done)) | with_reducible refine blk_normal ?_ | with_reducible refine thenQ_normal ?_ | with_reducible refine pws_nil ?_)
        refine hK _ ⟨(j + 1, nx', A.set q l[j]), by simp; omega⟩ (ent_keep rfl rfl rfl (fun t sv h => SubL.get (by simp [SubL, hks2, *]) h) (fun i b h => by simpa [hset] using h)) ⟨hA', by simp; omega⟩ (by simp; omega)
    · obtain rfl : j = l.length := by omega
      clear hK hp
      have hpre := hA.pre
      have hlt := hA.lt
      rw [hkl] at hpre hlt ⊢
      clear hA hkl hkl2
      generalize l.filter (fun x => !p x) = G at *
      have hb1 : G.length ≤ A.length := by omega
      have hb3 : G.length ≤ l.length := by omega
      repeat' (first | with_reducible refine pws_seq ?_ | ((with_reducible refine pws_regk fun K' S hK' hS => ?_); simp [argSlots, *]) | ((with_reducible refine Goes.go hK' ?_); clear hK' hS; clear K' S) | ((with_reducible refine GoesS.go hS ?_); clear hK' hS; clear K' S) | ((with_reducible refine pws_false ?_ ?_); (· simp; done)) | with_reducible refine blk_same ?_ | with_reducible refine thenQ_exit ?_ | with_reducible refine pws_exit ?_)
      refine pwl_clear (e := 3) (ta := 3) (id := id) (g := g) (off := G.length) (n := l.length - G.length) (xs := ints A) rfl rfl und24 tzero1_3 (by omega) (by simp) (by simp [lk]) (by simp; omega) rfl ?_
      refine pwl_runk fun K' S hK' hS => ?_; simp [*]
      repeat' (first | with_reducible refine pws_seq ?_ | ((with_reducible refine pws_regk fun K' S hK' hS => ?_); simp [argSlots, *]) | ((with_reducible refine Goes.go hK' ?_); clear hK' hS; clear K' S) | with_reducible refine pws_ret ?_)
      have hdr : List.drop l.length (ints A) = [] := List.drop_of_length_le (by simp [hAl])
      have hints : List.take G.length (ints A) ++ (List.replicate (l.length - G.length) [PV.lit (Value.int IntKind.i64 0)] ++ List.drop l.length (ints A)) = ints (G ++ List.replicate (l.length - G.length) 0) := by
        have e1 : List.take G.length (ints A) = ints G := by rw [← List.map_take, hpre]
        rw [hdr, List.append_nil, e1]
        simp
      refine finP_ret (vs := ?_) [] (.inr rfl) rfl ?_ ?_
      rotate_left
      · simp [Tryz.results92, resL, resOf]; rfl
      · refine ⟨G ++ List.replicate (l.length - G.length) 0, by simp; omega, by simp, by simp [wrapRes, cv, toPV, lk], ?_⟩
        rw [← hints]
        rfl
/-- cleanselaw25.some -/
def somP (which : List Bool) (k : Nat) : List Int := (allI k).filter fun x => (which[x.toNat]?).getD false
theorem somP_succ {which : List Bool} {k : Nat} (h : k < which.length) : somP which (k + 1) = if which[k] then somP which k ++ [(k : Int)] else somP which k := by
  unfold somP
  rw [allI_succ, List.filter_append]
  cases hb : which[k] <;> simp [h, hb]
theorem somP_len (which : List Bool) (k : Nat) : (somP which k).length ≤ k := by
  unfold somP
  exact Nat.le_trans (List.length_filter_le _ _) (by simp [allI])
theorem somP_end {which : List Bool} {n k : Nat} (h1 : k ≤ n) (h2 : k ≤ which.length) (h : k = n ∨ k = which.length) : somP which k = someI n which := by
  rcases h with rfl | rfl
  · rfl
  · unfold somP someI
    have : ∀ m, which.length ≤ m → (allI m).filter (fun x => (which[x.toNat]?).getD false) = (allI which.length).filter fun x => (which[x.toNat]?).getD false := by
      intro m hm
      obtain ⟨d, rfl⟩ : ∃ d, m = which.length + d := ⟨m - which.length, by omega⟩
      clear hm h1 h2
      induction d with
      | zero => rfl
      | succ d ih =>
        rw [← Nat.add_assoc, allI_succ, List.filter_append, ih]
        have e1 : ((which.length : Int) + (d : Int)).toNat = which.length + d := by omega
        simp [e1]
    exact (this n h1).symm
theorem some_ok (n : Nat) (which : List Bool) (hn : n ≤ 1000000) : CC Tryz.prog 40 [sint n, .pv (.sl 1 (pbools which))] (fun sv => sv = .pv (.sl 1 (ints (someI n which)))) := by
  refine CC.res ?_
  refine cc_of_pw Tryz.func40 rfl enters40 Tryz.ntmps40 (by simp) (pw_of_pws ?_)
  refine pws_ent (Ent.refl _) (pws_len (t := 1) (es := 1) (xs := pbools which) rfl fun hx => ?_)
  simp [maxLen] at hx
  repeat' (first | with_reducible refine pws_seq ?_ | with_reducible refine pws_block ?_ | ((with_reducible refine pws_regk fun K' S hK' hS => ?_); simp [argSlots, *]) | ((with_reducible refine Goes.go hK' ?_); clear hK' hS; clear K' S))
  refine pws_ent (ent_adopts (v := 5) (t := 3) (es := 1) rfl (by decide)) ?_
  refine pws_loop (α := { v : Nat × Nat // v.1 ≤ n ∧ v.1 ≤ which.length }) (fun v => { n := 27, nx := 1, s := [(6, sint v.1.1), (5, .loc 1 0 v.1.2 0 (somP which v.1.1).length), (0, sint n), (1, .pv (.sl 1 (pbools which)))], h := [(0, .arr 3 1 v.1.2 false (ints (somP which v.1.1)))], d := [] }) (fun v => n - v.1.1) (fun _ => True) ⟨(0, 0), by simp⟩ trivial (ent_sub rfl rfl rfl (by simp [SubL, somP, allI, *]) (by simp [SubL, somP, allI, *]) (by simp) (by simp) (by simp [slotsBelow, SV.lo, belowL]) (by simp [heapBelow, ABlk.lo, SV.lo, belowL, slotsBelow])) ?_
  rintro ⟨⟨k, g⟩, hk1, hk2⟩ _ K hK
  simp only at hk1 hk2
  have hsl := somP_len which k
  by_cases h1 : k < n
  · by_cases h2 : k < which.length
    · have hw := wrap64_id (n := (k : Int) + 1) (by omega)
      have hb := somP_succ h2
      have hb1 : ((somP which k).length + 1) * 8 ≤ 140737488355328 := by omega
      generalize somP which k = G at *
      cases hb2 : which[k] with
      | true =>
        rw [hb2, if_pos rfl] at hb
        clear hx
        repeat' (first | with_reducible refine pws_seq ?_ | with_reducible refine pws_skip ?_ | with_reducible refine pws_block ?_ | ((with_reducible refine pws_regk fun K' S hK' hS => ?_); simp [argSlots, *]) | ((with_reducible refine Goes.go hK' ?_); clear hK' hS; clear K' S) | ((with_reducible refine pws_true ?_ ?_); (· simp; done)) | with_reducible refine blk_normal ?_ | with_reducible refine thenQ_normal ?_ | with_reducible refine pws_nil ?_)
        refine hK _ ⟨(k + 1, g + 1), by simp; omega⟩ (ent_sub rfl rfl rfl (by simp [SubL, hb, *]) (by simp [SubL, hb, *]) (by simp) (by simp) (by simp [slotsBelow, SV.lo, belowL]) (by simp [heapBelow, ABlk.lo, SV.lo, belowL, slotsBelow])) trivial (by simp; omega)
      | false =>
        rw [hb2] at hb
        simp only [Bool.false_eq_true, if_false] at hb
        clear hx
        repeat' (first | with_reducible refine pws_seq ?_ | with_reducible refine pws_skip ?_ | with_reducible refine pws_block ?_ | ((with_reducible refine pws_regk fun K' S hK' hS => ?_); simp [argSlots, *]) | ((with_reducible refine Goes.go hK' ?_); clear hK' hS; clear K' S) | ((with_reducible refine pws_true ?_ ?_); (· simp; done)) | ((with_reducible refine pws_false ?_ ?_); (· simp; done)) | with_reducible refine blk_normal ?_ | with_reducible refine thenQ_normal ?_ | with_reducible refine pws_nil ?_)
        refine hK _ ⟨(k + 1, g), by simp; omega⟩ (ent_sub rfl rfl rfl (by simp [SubL, hb, *]) (by simp [SubL, hb, *]) (by simp) (by simp) (by simp [slotsBelow, SV.lo, belowL]) (by simp [heapBelow, ABlk.lo, SV.lo, belowL, slotsBelow])) trivial (by simp; omega)
    · have he := somP_end hk1 hk2 (.inr (by omega))
      clear hK
      rw [he]
      repeat' (first | with_reducible refine pws_seq ?_ | ((with_reducible refine pws_regk fun K' S hK' hS => ?_); simp [argSlots, *]) | ((with_reducible refine Goes.go hK' ?_); clear hK' hS; clear K' S) | ((with_reducible refine pws_false ?_ ?_); (· simp; done)) | with_reducible refine pws_ret ?_ | with_reducible refine blk_same ?_ | with_reducible refine thenQ_exit ?_ | with_reducible refine pws_exit ?_)
      refine finC_ret (vs := ?_) [.loc 1 0 g 0 (someI n which).length] (.inr rfl) rfl ?_ ?_ ?_
      rotate_left
      · simp [Tryz.results40, resL, resOf]; rfl
      · simp [wrapRes, cv, SV.const]
      · simp [wrapRes, cv]
        (repeat' (first | with_reducible exact SLe.refl _))
  · have he := somP_end hk1 hk2 (.inl (by omega))
    clear hK
    rw [he]
    repeat' (first | with_reducible refine pws_seq ?_ | ((with_reducible refine pws_regk fun K' S hK' hS => ?_); simp [argSlots, *]) | ((with_reducible refine Goes.go hK' ?_); clear hK' hS; clear K' S) | ((with_reducible refine pws_false ?_ ?_); (· simp; done)) | with_reducible refine pws_ret ?_ | with_reducible refine blk_same ?_ | with_reducible refine thenQ_exit ?_ | with_reducible refine pws_exit ?_)
    refine finC_ret (vs := ?_) [.loc 1 0 g 0 (someI n which).length] (.inr rfl) rfl ?_ ?_ ?_
    rotate_left
    · simp [Tryz.results40, resL, resOf]; rfl
    · simp [wrapRes, cv, SV.const]
    · simp [wrapRes, cv]
      (repeat' (first | with_reducible exact SLe.refl _))
end
section
attribute [local simp] V.c V.z Sd.c Tst.c Fx.c Rl.c Fc.c wrap1f take_map_len take_map_len1
theorem enters88 : Enters Tryz.prog 88 := enters_mk Tryz.func88 (by kernel_rfl) (by kernel_rfl)
theorem enters89 : Enters Tryz.prog 89 := enters_mk Tryz.func89 (by kernel_rfl) (by kernel_rfl)
theorem enters93 : Enters Tryz.prog 93 := enters_mk Tryz.func93 (by kernel_rfl) (by kernel_rfl)
theorem col_ok (f : Fc) (c : Int) : CC Tryz.prog 88 [.agg f.c, sint c] (fun sv => sv = .agg (dVal f c).c) := by
  refine cc_of_pw Tryz.func88 rfl enters88 Tryz.ntmps88 (by simp) (pw_of_pws ?_)
  by_cases h : 0 ≤ c ∧ c < f.row.length
  · obtain ⟨m, rfl⟩ : ∃ m : Nat, c = m := ⟨c.toNat, by omega⟩
    have hm : m < f.row.length := by omega
    have hd := dVal_in hm
    clear h
    repeat' (first | with_reducible refine pws_seq ?_ | with_reducible refine pws_skip ?_ | ((with_reducible refine pws_regk fun K' S hK' hS => ?_); simp [argSlots, *]) | ((with_reducible refine Goes.go hK' ?_); clear hK' hS; clear K' S) | ((with_reducible refine pws_true ?_ ?_); (· simp; done)) | ((with_reducible refine pws_condk (k := ?_) ?_ (fun hb => ?_) (fun hb => ?_)); rotate_left; (· rfl); all_goals (try (simp only [decide_eq_true_eq, decide_eq_false_iff_not, Bool.not_eq_true', Bool.not_eq_false', Decidable.not_not, Bool.not_eq_true, Bool.not_eq_false, Bool.and_eq_true, beq_iff_eq] at hb))) | with_reducible refine pws_ret ?_ | ((with_reducible refine runG_split (fun hb => ?_) (fun hb => ?_)); all_goals ((try (simp only [decide_eq_true_eq, decide_eq_false_iff_not, Bool.not_eq_true', Bool.not_eq_false', Decidable.not_not, Bool.not_eq_true, Bool.not_eq_false, Bool.and_eq_true, beq_iff_eq] at hb)); simp [argSlots, *])))
    all_goals (refine finC_ret (vs := ?_) [] (by first | exact .inr rfl | exact .inl rfl) rfl ?_ ?_ ?_; rotate_left; (· simp [Tryz.results88, resL, resOf]; rfl); (· first | rfl | (simp [wrapRes, cv, SV.const, constL]; done)); (· first | (simp [wrapRes, cv, *]; done) | (simp [wrapRes, cv, *]; grind) | (simp [wrapRes, cv, *]; omega)))
  · have hd := dVal_out h
    by_cases h1 : c < 0
    · clear h
      repeat' (first | with_reducible refine pws_seq ?_ | ((with_reducible refine pws_regk fun K' S hK' hS => ?_); simp [argSlots, *]) | ((with_reducible refine Goes.go hK' ?_); clear hK' hS; clear K' S) | ((with_reducible refine pws_true ?_ ?_); (· simp; done)) | with_reducible refine pws_ret ?_)
      all_goals (refine finC_ret (vs := ?_) [] (by first | exact .inr rfl | exact .inl rfl) rfl ?_ ?_ ?_; rotate_left; (· simp [Tryz.results88, resL, resOf]; rfl); (· first | rfl | (simp [wrapRes, cv, SV.const, constL]; done)); (· first | (simp [wrapRes, cv, *]; done) | (simp [wrapRes, cv, *]; grind) | (simp [wrapRes, cv, *]; omega)))
    · have h2 : (f.row.length : Int) ≤ c := by omega
      clear h
      repeat' (first | with_reducible refine pws_seq ?_ | ((with_reducible refine pws_regk fun K' S hK' hS => ?_); simp [argSlots, *]) | ((with_reducible refine Goes.go hK' ?_); clear hK' hS; clear K' S) | ((with_reducible refine pws_true ?_ ?_); (· simp; done)) | with_reducible refine pws_ret ?_)
      all_goals (refine finC_ret (vs := ?_) [] (by first | exact .inr rfl | exact .inl rfl) rfl ?_ ?_ ?_; rotate_left; (· simp [Tryz.results88, resL, resOf]; rfl); (· first | rfl | (simp [wrapRes, cv, SV.const, constL]; done)); (· first | (simp [wrapRes, cv, *]; done) | (simp [wrapRes, cv, *]; grind) | (simp [wrapRes, cv, *]; omega)))
theorem all_pc (F : List Fc) (hF : F.length ≤ 100000) (nx : Nat) (H : List (Nat × ABlk)) : PC Tryz.prog 83 [.pv (.sl 6 (pfacts F))] nx H (fun sv nx' H' => sv = .loc 1 nx 0 0 F.length ∧ nx' = nx + 1 ∧ H' = (nx, .arr 3 1 0 false (ints (allI F.length))) :: H) := by
  refine pc_of_pw' (fn := Tryz.f83) Tryz.func83 rfl enters83 Tryz.ntmps83 (by simp [capRefs]) (pw_of_pws ?_)
  have hb0 : 8 * F.length ≤ 281474976710656 := by omega
  have hz := fillI_zero F.length
  repeat' (first | with_reducible refine pws_seq ?_ | with_reducible refine pws_block ?_ | ((with_reducible refine pws_regk fun K' S hK' hS => ?_); simp [argSlots, *]) | ((with_reducible refine Goes.go hK' ?_); clear hK' hS; clear K' S))
  refine pws_loop (α := { k : Nat // k ≤ F.length }) (fun k => { n := 19, nx := nx + 1, s := [(10, sint k.1), (9, sint F.length), (3, .loc 1 nx 0 0 F.length)], h := (nx, .arr 3 1 0 false (ints (fillI F.length k.1))) :: H, d := [] }) (fun k => F.length - k.1) (fun k => True) ⟨0, by omega⟩ trivial (ent_keep rfl rfl rfl (fun t sv h => SubL.get (by simp [SubL, *]) h) (fun i b h => by simpa [hz] using h)) ?_
  rintro ⟨k, hk⟩ _ K hK
  have hfl := fillI_len hk
  by_cases h1 : k < F.length
  · have hw := wrap64_id (n := (k : Int) + 1) (by omega)
    have hs := ints_set (fillI F.length k) k k
    rw [← fillI_succ h1] at hs
    have hkl : k < (fillI F.length k).length := by omega
    clear hz
    generalize fillI F.length k = G at *
    repeat' (first | with_reducible refine pws_seq ?_ | with_reducible refine pws_skip ?_ | with_reducible refine pws_block ?_ | ((with_reducible refine pws_regk fun K' S hK' hS => ?_); simp [argSlots, *]) | ((with_reducible refine Goes.go hK' ?_); clear hK' hS; clear K' S) | ((with_reducible refine pws_true ?_ ?_); (· simp; done)) | with_reducible refine blk_normal ?_ | with_reducible refine thenQ_normal ?_ | with_reducible refine pws_nil ?_)
    refine hK _ ⟨k + 1, by omega⟩ (ent_keep rfl rfl rfl (fun t sv h => SubL.get (by simp [SubL, *]) h) (fun i b h => by simpa [hs] using h)) trivial (by simp; omega)
  · obtain rfl : k = F.length := by omega
    clear hK hz
    have he := fillI_end F.length
    rw [he] at hfl ⊢
    repeat' (first | with_reducible refine pws_seq ?_ | ((with_reducible refine pws_regk fun K' S hK' hS => ?_); simp [argSlots, *]) | ((with_reducible refine Goes.go hK' ?_); clear hK' hS; clear K' S) | ((with_reducible refine pws_false ?_ ?_); (· simp; done)) | with_reducible refine pws_ret ?_ | with_reducible refine blk_same ?_ | with_reducible refine thenQ_exit ?_ | with_reducible refine pws_exit ?_)
    refine finP_ret (vs := ?_) [] (.inr rfl) rfl ?_ ?_
    rotate_left
    · simp [Tryz.results83, resL, resOf]; rfl
    · exact ⟨by simp [wrapRes, cv, toPV, lk, St.frzs], rfl, rfl⟩
/-- The memory of the search. -/
abbrev HD (F : List Fc) (out : List Bool) (r : Rl) (v : V) : List (Nat × ABlk) := [(6, .box (v.c.map .pv)), (4, .box (r.c.map .pv)), (3, .box [.loc 1 2 0 0 F.length]), (2, .arr 4 1 0 false (pbools out)), (1, .box [.clos 88 []]), (0, .box [.pv (.sl 6 (pfacts F))])]
abbrev caD : List (Nat × Nat) := [(0, 0), (4, 0), (3, 0), (6, 0), (1, 0)]
def offB (F : List Fc) (out : List Bool) (r : Rl) (v : V) (x : Int) : Bool := !gone out x.toNat && offers r v (nf F x.toNat)
theorem offers_pc (F : List Fc) (out : List Bool) (r : Rl) (v : V) (hl : out.length = F.length) (hF : F.length ≤ 100000) (n : Nat) : PredC 89 caD (HD F out r v) (offB F out r v) (allI F.length) n := by
  intro x hx nx hn
  obtain ⟨hx0, hx1⟩ := mem_allI.1 hx
  obtain ⟨k, rfl⟩ : ∃ k : Nat, x = k := ⟨x.toNat, by omega⟩
  have hk : k < F.length := by omega
  have hkl : k < out.length := by omega
  have hnf := nf_get hk
  have hgk := gone_get hkl
  have hvt := vTest_eq v.k v.n v.t 1 (dVal F[k] r.otherCol).k (dVal F[k] r.otherCol).n (dVal F[k] r.otherCol).t 0
  have hval : offB F out r v (k : Int) = (!out[k] && offers r v F[k]) := by simp [offB, hnf, hgk]
  have hof : offers r v F[k] = (decide (F[k].table = r.other) && rTest v.k v.n v.t 1 (dVal F[k] r.otherCol).k (dVal F[k] r.otherCol).n (dVal F[k] r.otherCol).t 0) := rfl
  rw [hval, hof, ← hvt]
  clear hval hof hvt hnf hgk hx hx0 hx1 hn
  refine pc_of_pw' (fn := Tryz.f89) Tryz.func89 rfl enters89 Tryz.ntmps89 (by simp [capRefs]) (pw_of_pws ?_)
  by_cases ht0 : F[k].table = r.other
  · have ht : (F[k].table = r.other) = True := eq_true ht0
    clear ht0
    cases hg : out[k] with
    | true =>
      repeat' (first | with_reducible refine pws_seq ?_ | ((with_reducible refine pws_regk fun K' S hK' hS => ?_); simp [argSlots, capRefs, *]) | ((with_reducible refine Goes.go hK' ?_); clear hK' hS; clear K' S) | with_reducible refine pws_ret ?_ | ((with_reducible refine pws_drawk [24, 25] [0, 1, 2, 3, 4, 5, 6, 7, 8, 9, 10, 11, 12, 13, 14, 15, 16, 17, 18, 19, 20, 21, 22, 23, 24, 25, 26, 27] [] ?_ fun K' S hK' hS => ?_); (· decide +kernel); simp [argSlots, capRefs, *]) | ((with_reducible refine GoesD.go hS ?_); clear hK' hS; clear K' S) | ((with_reducible refine pwd_off (eff := [24, 25]) (i := 24) (c := [23, 22, 21, 20, 19, 18, 17, 16, 15, 14, 13, 12, 11, 10, 9, 8, 7, 6, 5, 4, 3, 2, 1, 0]) (c' := [16]) (o := ?_) ?_ ?_ ?_ ?_ ?_ ?_ ?_); rotate_left 1; (· rfl); (· rfl); (· (simp [argSlots, capRefs, *]; done)); (· (simp [argSlots, capRefs, *]; done)); (· rfl); (· decide +kernel); refine pwd_runk fun K' S hK' hS => ?_; simp [argSlots, capRefs, *]) | ((with_reducible refine pwd_off (eff := [24, 25]) (i := 25) (c := [16]) (c' := []) (o := ?_) ?_ ?_ ?_ ?_ ?_ ?_ ?_); rotate_left 1; (· rfl); (· rfl); (· (simp [argSlots, capRefs, *]; done)); (· (simp [argSlots, capRefs, *]; done)); (· rfl); (· decide +kernel); refine pwd_runk fun K' S hK' hS => ?_; simp [argSlots, capRefs, *]))
      all_goals (refine finP_ret (vs := ?_) [] (by first | exact .inr rfl | exact .inl rfl) rfl ?_ ?_; rotate_left; (· simp [Tryz.results89, resL, resOf, *]; rfl); (· first | (simp [wrapRes, cv, *]; done) | (simp [wrapRes, cv, *]; grind) | (simp [wrapRes, cv, *]; omega)))
    | false =>
      repeat' (first | with_reducible refine pws_seq ?_ | ((with_reducible refine pws_regk fun K' S hK' hS => ?_); simp [argSlots, capRefs, *]) | ((with_reducible refine Goes.go hK' ?_); clear hK' hS; clear K' S) | with_reducible refine pws_ret ?_ | ((with_reducible refine pws_drawk [24, 25] [0, 1, 2, 3, 4, 5, 6, 7, 8, 9, 10, 11, 12, 13, 14, 15, 16, 17, 18, 19, 20, 21, 22, 23, 24, 25, 26, 27] [] ?_ fun K' S hK' hS => ?_); (· decide +kernel); simp [argSlots, capRefs, *]) | ((with_reducible refine GoesD.go hS ?_); clear hK' hS; clear K' S) | ((with_reducible refine pwd_callk (eff := [24, 25]) (i := 24) (c := [23, 22, 21, 20, 19, 18, 17, 16, 15, 14, 13, 12, 11, 10, 9, 8, 7, 6, 5, 4, 3, 2, 1, 0]) (c' := [16]) (o := ?_) (cl := ?_) (x := ?_) (f := ?_) (svs := ?_) (cs := ?_) (Qr := ?_) true ?_ ?_ ?_ ?_ ?_ ?_ ?_ ?_ ?_ ?_ ?_ ?_ ?_); rotate_left 7; (· rfl); (· rfl); (· (simp [argSlots, capRefs, *]; done)); (· (simp [argSlots, capRefs, *]; done)); (· decide +kernel); (· rfl); (· rfl); (· (simp; with_reducible rfl)); (· (simp; with_reducible rfl)); (· first | (simp [bors, bor]; with_reducible rfl) | (simp [bors, bor, *]; with_reducible rfl)); (· rfl); (· ((with_reducible refine col_ok _ _))); (rintro sv hsv hsc; clear hsc; obtain rfl := hsv; refine ⟨(by first | (intro _; rfl) | (intro h; cases h)), ?_⟩; refine pwd_runk fun K' S hK' hS => ?_; simp [argSlots, capRefs, *])) | ((with_reducible refine pwd_callk (eff := [24, 25]) (i := 25) (c := [16]) (c' := []) (o := ?_) (cl := ?_) (x := ?_) (f := ?_) (svs := ?_) (cs := ?_) (Qr := ?_) true ?_ ?_ ?_ ?_ ?_ ?_ ?_ ?_ ?_ ?_ ?_ ?_ ?_); rotate_left 7; (· rfl); (· rfl); (· (simp [argSlots, capRefs, *]; done)); (· (simp [argSlots, capRefs, *]; done)); (· decide +kernel); (· rfl); (· rfl); (· (simp; with_reducible rfl)); (· (simp; with_reducible rfl)); (· first | (simp [bors, bor]; with_reducible rfl) | (simp [bors, bor, *]; with_reducible rfl)); (· rfl); (· ((with_reducible refine vTest_ok _ _ _ _ _ _ _ _))); (rintro sv hsv hsc; clear hsc; obtain rfl := hsv; refine ⟨(by first | (intro _; rfl) | (intro h; cases h)), ?_⟩; refine pwd_runk fun K' S hK' hS => ?_; simp [argSlots, capRefs, *])))
      all_goals (refine finP_ret (vs := ?_) [] (by first | exact .inr rfl | exact .inl rfl) rfl ?_ ?_; rotate_left; (· simp [Tryz.results89, resL, resOf, *]; rfl); (· first | (simp [wrapRes, cv, *]; done) | (simp [wrapRes, cv, *]; grind) | (simp [wrapRes, cv, *]; omega)))
  · repeat' (first | with_reducible refine pws_seq ?_ | ((with_reducible refine pws_regk fun K' S hK' hS => ?_); simp [argSlots, capRefs, *]) | ((with_reducible refine Goes.go hK' ?_); clear hK' hS; clear K' S) | with_reducible refine pws_ret ?_ | ((with_reducible refine pws_drawk [24, 25] [0, 1, 2, 3, 4, 5, 6, 7, 8, 9, 10, 11, 12, 13, 14, 15, 16, 17, 18, 19, 20, 21, 22, 23, 24, 25, 26, 27] [] ?_ fun K' S hK' hS => ?_); (· decide +kernel); simp [argSlots, capRefs, *]) | ((with_reducible refine GoesD.go hS ?_); clear hK' hS; clear K' S) | ((with_reducible refine pwd_off (eff := [24, 25]) (i := 24) (c := [23, 22, 21, 20, 19, 18, 17, 16, 15, 14, 13, 12, 11, 10, 9, 8, 7, 6, 5, 4, 3, 2, 1, 0]) (c' := [16]) (o := ?_) ?_ ?_ ?_ ?_ ?_ ?_ ?_); rotate_left 1; (· rfl); (· rfl); (· (simp [argSlots, capRefs, *]; done)); (· (simp [argSlots, capRefs, *]; done)); (· rfl); (· decide +kernel); refine pwd_runk fun K' S hK' hS => ?_; simp [argSlots, capRefs, *]) | ((with_reducible refine pwd_off (eff := [24, 25]) (i := 25) (c := [16]) (c' := []) (o := ?_) ?_ ?_ ?_ ?_ ?_ ?_ ?_); rotate_left 1; (· rfl); (· rfl); (· (simp [argSlots, capRefs, *]; done)); (· (simp [argSlots, capRefs, *]; done)); (· rfl); (· decide +kernel); refine pwd_runk fun K' S hK' hS => ?_; simp [argSlots, capRefs, *]))
    all_goals (refine finP_ret (vs := ?_) [] (by first | exact .inr rfl | exact .inl rfl) rfl ?_ ?_; rotate_left; (· simp [Tryz.results89, resL, resOf, *]; rfl); (· first | (simp [wrapRes, cv, *]; done) | (simp [wrapRes, cv, *]; grind) | (simp [wrapRes, cv, *]; omega)))
theorem kept_pc (F : List Fc) (out : List Bool) (hl : out.length = F.length) (n : Nat) : PredC 93 [(3, 0)] [(3, .box [.loc 1 2 0 0 F.length]), (2, .arr 4 1 0 false (pbools out))] (fun x => !gone out x.toNat) (allI F.length) n := by
  intro x hx nx hn
  obtain ⟨hx0, hx1⟩ := mem_allI.1 hx
  obtain ⟨k, rfl⟩ : ∃ k : Nat, x = k := ⟨x.toNat, by omega⟩
  have hk : k < F.length := by omega
  have hkl : k < out.length := by omega
  have hgk := gone_get hkl
  clear hx hx0 hx1 hn
  refine pc_of_pw' (fn := Tryz.f93) Tryz.func93 rfl enters93 Tryz.ntmps93 (by simp [capRefs]) (pw_of_pws ?_)
  repeat' (first | with_reducible refine pws_seq ?_ | ((with_reducible refine pws_regk fun K' S hK' hS => ?_); simp [argSlots, capRefs, *]) | ((with_reducible refine Goes.go hK' ?_); clear hK' hS; clear K' S) | with_reducible refine pws_ret ?_)
  all_goals (refine finP_ret (vs := ?_) [] (by first | exact .inr rfl | exact .inl rfl) rfl ?_ ?_; rotate_left; (· simp [Tryz.results93, resL, resOf, *]; rfl); (· first | (simp [wrapRes, cv, *]; done) | (simp [wrapRes, cv, *]; grind) | (simp [wrapRes, cv, *]; omega)))
end
section
attribute [local simp] V.c V.z Sd.c Tst.c Fx.c Rl.c Fc.c wrap1f take_map_len take_map_len1
theorem enters35 : Enters Tryz.prog 35 := enters_mk Tryz.func35 (by kernel_rfl) (by kernel_rfl)
abbrev sD (R : List Rl) (b : Bool) : List (Nat × SV) := [(7, sbool b), (6, .ref 3 0), (5, .ref 1 0), (3, .ref 0 0), (0, .pv (.sl 10 (prules R)))]
abbrev HD0 (F : List Fc) (out : List Bool) : List (Nat × ABlk) := [(3, .box [.loc 1 2 0 0 F.length]), (2, .arr 4 1 0 false (pbools out)), (1, .box [.clos 88 []]), (0, .box [.pv (.sl 6 (pfacts F))])]
theorem all_any (n : Nat) (p : Nat → Bool) : (allI n).any (fun x => p x.toNat) = (List.range n).any p := by
  unfold allI
  rw [List.any_map]
  congr 1
theorem dDangling_ok (R : List Rl) (F : List Fc) (hF : F.length ≤ 12) : CC Tryz.prog 35 [.pv (.sl 10 (prules R)), .pv (.sl 6 (pfacts F))] (fun sv => sv = .pv (.sl 1 (ints (dangL R F)))) := by
  refine CC.res ?_
  refine cc_of_pw Tryz.func35 rfl enters35 Tryz.ntmps35 (by simp) (pw_of_pws ?_)
  refine pws_ent (Ent.refl _) (pws_len (t := 0) (es := 10) (xs := prules R) rfl fun hxR => ?_)
  simp [maxLen] at hxR
  have hb0 : F.length ≤ 281474976710656 := by omega
  repeat' (first | with_reducible refine pws_seq ?_ | with_reducible refine pws_block ?_ | ((with_reducible refine pws_regk fun K' S hK' hS => ?_); simp [argSlots, *]) | ((with_reducible refine Goes.go hK' ?_); clear hK' hS; clear K' S))
  refine pws_loop (α := { q : Bool × List Bool // q.2.length = F.length }) (fun q => { n := 70, nx := 4, s := sD R q.1.1, h := HD0 F q.1.2, d := [] }) (fun q => 2 * nfalse q.1.2 + (if q.1.1 then 1 else 0)) (fun q => Least R F q.1.2 ∧ (q.1.1 = false → IsDang R F q.1.2)) ⟨(true, List.replicate F.length false), by simp⟩ ⟨least_none, fun h => by cases h⟩ (ent_sub rfl rfl rfl (by simp [SubL, *]) (by simp [SubL, *]) (by simp) (by simp) (by simp [slotsBelow, SV.lo, belowL]) (by simp [heapBelow, ABlk.lo, SV.lo, belowL, slotsBelow])) ?_
  rintro ⟨⟨ag0, out0⟩, hl0⟩ ⟨hle0, hda0⟩ K0 hK0
  simp only at hl0 hle0 hda0
  cases ag0 with
  | true =>
    clear hda0
    repeat' (first | with_reducible refine pws_seq ?_ | with_reducible refine pws_skip ?_ | with_reducible refine pws_block ?_ | ((with_reducible refine pws_regk fun K' S hK' hS => ?_); simp [argSlots, *]) | ((with_reducible refine Goes.go hK' ?_); clear hK' hS; clear K' S) | ((with_reducible refine pws_true ?_ ?_); (· simp; done)))
    refine pws_loop (α := { q : Nat × Bool × List Bool // q.1 ≤ R.length ∧ q.2.2.length = F.length }) (fun q => { n := 70, nx := 4, s := (20, sint q.1.1) :: (19, sint R.length) :: (18, .pv (.sl 10 (prules R))) :: sD R q.1.2.1, h := HD0 F q.1.2.2, d := [] }) (fun q => R.length - q.1.1) (fun q => DI R F (nfalse out0) q.1.2.2 q.1.2.1 q.1.1 0) ⟨(0, false, out0), by simp, hl0⟩ (DI.start hl0 hle0) (ent_sub rfl rfl rfl (by simp [SubL, *]) (by simp [SubL, *]) (by simp) (by simp) (by simp [slotsBelow, SV.lo, belowL]) (by simp [heapBelow, ABlk.lo, SV.lo, belowL, slotsBelow])) ?_
    rintro ⟨⟨i, ag, out⟩, hi, hl⟩ hdi K1 hK1
    simp only at hi hl hdi
    by_cases hi1 : i < R.length
    · have hwi := wrap64_id (n := (i : Int) + 1) (by omega)
      by_cases h3 : R[i].kind = 3
      · repeat' (first | with_reducible refine pws_seq ?_ | with_reducible refine pws_skip ?_ | with_reducible refine pws_block ?_ | ((with_reducible refine pws_regk fun K' S hK' hS => ?_); simp [argSlots, *]) | ((with_reducible refine Goes.go hK' ?_); clear hK' hS; clear K' S) | ((with_reducible refine pws_true ?_ ?_); (· simp; done)) | ((with_reducible refine pws_false ?_ ?_); (· simp; done)))
        refine pws_loop (α := { q : Nat × Bool × List Bool // q.1 ≤ F.length ∧ q.2.2.length = F.length }) (fun q => { n := 70, nx := 5, s := (29, sint q.1.1) :: (28, sint F.length) :: (27, .pv (.sl 6 (pfacts F))) :: (9, .ref 4 0) :: (20, sint i) :: (19, sint R.length) :: (18, .pv (.sl 10 (prules R))) :: sD R q.1.2.1, h := (4, .box (R[i].c.map .pv)) :: HD0 F q.1.2.2, d := [] }) (fun q => F.length - q.1.1) (fun q => DI R F (nfalse out0) q.1.2.2 q.1.2.1 i q.1.1) ⟨(0, ag, out), by simp, hl⟩ hdi (ent_sub rfl rfl rfl (by simp [SubL, *]) (by simp [SubL, *]) (by simp) (by simp) (by simp [slotsBelow, SV.lo, belowL]) (by simp [heapBelow, ABlk.lo, SV.lo, belowL, slotsBelow])) ?_
        clear hdi
        rintro ⟨⟨k, ag, out⟩, hk, hl⟩ hdi K2 hK2
        simp only at hk hl hdi
        by_cases hk1 : k < F.length
        · have hwk := wrap64_id (n := (k : Int) + 1) (by omega)
          have hkl : k < out.length := by omega
          have hnf := nf_get hk1
          have hgk := gone_get hkl
          cases hgo : out[k] with
          | true =>
            have hnx := hdi.next hi1 (.inl (by rw [hgk]; exact hgo))
            clear hK1 hdi hK0
            by_cases ht0 : F[k].table = R[i].table
            · have ht : (F[k].table = R[i].table) = True := eq_true ht0
              clear ht0
              repeat' (first | with_reducible refine pws_seq ?_ | with_reducible refine pws_skip ?_ | with_reducible refine pws_block ?_ | ((with_reducible refine pws_regk fun K' S hK' hS => ?_); simp [argSlots, *]) | ((with_reducible refine Goes.go hK' ?_); clear hK' hS; clear K' S) | ((with_reducible refine GoesS.go hS ?_); clear hK' hS; clear K' S) | ((with_reducible refine pws_true ?_ ?_); (· simp; done)) | with_reducible refine blk_same ?_ | with_reducible refine thenQ_normal ?_ | with_reducible refine pws_nil ?_ | with_reducible refine pws_exit ?_ | ((with_reducible refine pwl_callk (c := ?_) (x := ?_) (f := ?_) (svs := ?_) (cs := ?_) (Qr := ?_) true ?_ ?_ ?_ ?_ ?_ ?_ ?_ ?_ ?_); rotate_left 6; (· (simp [argSlots, *]; done)); (· rfl); (· rfl); (· (simp; with_reducible rfl)); (· (simp; with_reducible rfl)); (· first | (simp [bors, bor]; with_reducible rfl) | (simp [bors, bor, *]; with_reducible rfl)); (· rfl); (· ((with_reducible refine col_ok _ _))); (rintro sv hsv hsc; clear hsc; obtain rfl := hsv; refine ⟨(by first | (intro _; rfl) | (intro h; cases h)), ?_⟩; refine pwl_runk fun K' S hK' hS => ?_; simp [argSlots, *])))
              all_goals refine hK2 _ ⟨(k + 1, ag, out), by simp; omega, hl⟩ (ent_sub rfl rfl rfl (by simp [SubL, *]) (by simp [SubL, *]) (by simp) (by simp) (by simp [slotsBelow, SV.lo, belowL]) (by simp [heapBelow, ABlk.lo, SV.lo, belowL, slotsBelow])) hnx (by simp; omega)
            · repeat' (first | with_reducible refine pws_seq ?_ | with_reducible refine pws_skip ?_ | with_reducible refine pws_block ?_ | ((with_reducible refine pws_regk fun K' S hK' hS => ?_); simp [argSlots, *]) | ((with_reducible refine Goes.go hK' ?_); clear hK' hS; clear K' S) | ((with_reducible refine GoesS.go hS ?_); clear hK' hS; clear K' S) | ((with_reducible refine pws_true ?_ ?_); (· simp; done)) | with_reducible refine blk_same ?_ | with_reducible refine thenQ_normal ?_ | with_reducible refine pws_nil ?_ | with_reducible refine pws_exit ?_ | ((with_reducible refine pwl_callk (c := ?_) (x := ?_) (f := ?_) (svs := ?_) (cs := ?_) (Qr := ?_) true ?_ ?_ ?_ ?_ ?_ ?_ ?_ ?_ ?_); rotate_left 6; (· (simp [argSlots, *]; done)); (· rfl); (· rfl); (· (simp; with_reducible rfl)); (· (simp; with_reducible rfl)); (· first | (simp [bors, bor]; with_reducible rfl) | (simp [bors, bor, *]; with_reducible rfl)); (· rfl); (· ((with_reducible refine col_ok _ _))); (rintro sv hsv hsc; clear hsc; obtain rfl := hsv; refine ⟨(by first | (intro _; rfl) | (intro h; cases h)), ?_⟩; refine pwl_runk fun K' S hK' hS => ?_; simp [argSlots, *])))
              all_goals refine hK2 _ ⟨(k + 1, ag, out), by simp; omega, hl⟩ (ent_sub rfl rfl rfl (by simp [SubL, *]) (by simp [SubL, *]) (by simp) (by simp) (by simp [slotsBelow, SV.lo, belowL]) (by simp [heapBelow, ABlk.lo, SV.lo, belowL, slotsBelow])) hnx (by simp; omega)
          | false =>
            by_cases ht0 : F[k].table = R[i].table
            · have ht : (F[k].table = R[i].table) = True := eq_true ht0
              clear ht0
              by_cases hz : (dVal F[k] R[i].col).k = 0
              · have hnx := hdi.next hi1 (.inr (.inl (by rw [hnf]; exact fun hn => hn.2.2 hz)))
                clear hK1 hdi hK0
                repeat' (first | with_reducible refine pws_seq ?_ | with_reducible refine pws_skip ?_ | with_reducible refine pws_block ?_ | ((with_reducible refine pws_regk fun K' S hK' hS => ?_); simp [argSlots, *]) | ((with_reducible refine Goes.go hK' ?_); clear hK' hS; clear K' S) | ((with_reducible refine GoesS.go hS ?_); clear hK' hS; clear K' S) | ((with_reducible refine pws_true ?_ ?_); (· simp; done)) | with_reducible refine blk_same ?_ | with_reducible refine thenQ_normal ?_ | with_reducible refine pws_nil ?_ | with_reducible refine pws_exit ?_ | ((with_reducible refine pwl_callk (c := ?_) (x := ?_) (f := ?_) (svs := ?_) (cs := ?_) (Qr := ?_) true ?_ ?_ ?_ ?_ ?_ ?_ ?_ ?_ ?_); rotate_left 6; (· (simp [argSlots, *]; done)); (· rfl); (· rfl); (· (simp; with_reducible rfl)); (· (simp; with_reducible rfl)); (· first | (simp [bors, bor]; with_reducible rfl) | (simp [bors, bor, *]; with_reducible rfl)); (· rfl); (· ((with_reducible refine col_ok _ _))); (rintro sv hsv hsc; clear hsc; obtain rfl := hsv; refine ⟨(by first | (intro _; rfl) | (intro h; cases h)), ?_⟩; refine pwl_runk fun K' S hK' hS => ?_; simp [argSlots, *])))
                all_goals refine hK2 _ ⟨(k + 1, ag, out), by simp; omega, hl⟩ (ent_sub rfl rfl rfl (by simp [SubL, *]) (by simp [SubL, *]) (by simp) (by simp) (by simp [slotsBelow, SV.lo, belowL]) (by simp [heapBelow, ABlk.lo, SV.lo, belowL, slotsBelow])) hnx (by simp; omega)
              · have hcf := containsFunc_pc 89 caD (HD F out R[i] (dVal F[k] R[i].col)) (offB F out R[i] (dVal F[k] R[i].col)) (allI F.length) 7 (offers_pc F out R[i] (dVal F[k] R[i].col) hl (by omega) 7) (by simp [allI]; omega)
                have hdf : (allI F.length).any (offB F out R[i] (dVal F[k] R[i].col)) = dFound F out R[i] (dVal F[k] R[i].col) := all_any F.length fun m => !gone out m && offers R[i] (dVal F[k] R[i].col) (nf F m)
                rw [hdf] at hcf
                have hal := all_ok F (by omega)
                clear hK1 hK0 hdf
                repeat' (first | with_reducible refine pws_seq ?_ | with_reducible refine pws_skip ?_ | with_reducible refine pws_block ?_ | ((with_reducible refine pws_regk fun K' S hK' hS => ?_); simp [argSlots, *]) | ((with_reducible refine Goes.go hK' ?_); clear hK' hS; clear K' S) | ((with_reducible refine GoesS.go hS ?_); clear hK' hS; clear K' S) | ((with_reducible refine pws_true ?_ ?_); (· simp; done)) | ((with_reducible refine pws_false ?_ ?_); (· simp; done)) | ((with_reducible refine pwl_callk (c := ?_) (x := ?_) (f := ?_) (svs := ?_) (cs := ?_) (Qr := ?_) true ?_ ?_ ?_ ?_ ?_ ?_ ?_ ?_ ?_); rotate_left 6; (· (simp [argSlots, *]; done)); (· rfl); (· rfl); (· (simp; with_reducible rfl)); (· (simp; with_reducible rfl)); (· first | (simp [bors, bor]; with_reducible rfl) | (simp [bors, bor, *]; with_reducible rfl)); (· rfl); (· ((with_reducible refine col_ok _ _))); (rintro sv hsv hsc; clear hsc; obtain rfl := hsv; refine ⟨(by first | (intro _; rfl) | (intro h; cases h)), ?_⟩; refine pwl_runk fun K' S hK' hS => ?_; simp [argSlots, *])) | ((with_reducible refine pwl_callk (c := ?_) (x := ?_) (f := ?_) (svs := ?_) (cs := ?_) (Qr := ?_) false ?_ ?_ ?_ ?_ ?_ ?_ ?_ ?_ ?_); rotate_left 6; (· (simp [argSlots, *]; done)); (· rfl); (· rfl); (· (simp; with_reducible rfl)); (· (simp; with_reducible rfl)); (· first | (simp [bors, bor]; with_reducible rfl) | (simp [bors, bor, *]; with_reducible rfl)); (· rfl); (· ((with_reducible refine hal))); (rintro sv hsv hsc; clear hsc; obtain rfl := hsv; refine ⟨(by first | (intro _; rfl) | (intro h; cases h)), ?_⟩; refine pwl_runk fun K' S hK' hS => ?_; simp [argSlots, *])))
                refine pwl_callpk (c := ?_) (x := ?_) (f := 91) (caps := []) (svs := [.pv (.sl 1 (ints (allI F.length))), .clos 89 caD]) (own := [(5, .box (F[k].c.map .pv))]) (Hs := HD F out R[i] (dVal F[k] R[i].col)) (Qr := _) ?_ ?_ ?_ ?_ ?_ ?_ (fun i b h => by simp only [List.cons_append, List.nil_append, lk] at h ⊢; (repeat' split at h) <;> (try subst_vars) <;> first | (simp_all; done) | (simp_all; omega) | (exfalso; omega)) (fun i b h => by simp only [List.cons_append, List.nil_append, lk] at h ⊢; (repeat' split at h) <;> (try subst_vars) <;> first | (subst_vars; simp [*]; done) | (simp_all; done) | (simp_all; omega)) (by simpa [capRefs] using hcf) ?_; rotate_left 2; (· first | rfl | (simp [*]; done)); (· rfl); (· rfl); (· first | rfl | (simp; done)); (· first | rfl | (simp; done)); (· rfl); rintro sv nx' H' hq hn hd
                obtain ⟨rfl, rfl⟩ := hq
                simp only at hn
                clear hcf hal hd
                cases hf : dFound F out R[i] (dVal F[k] R[i].col) with
                | true =>
                  have hnx := hdi.next hi1 (.inr (.inr (by rw [hnf]; exact hf)))
                  clear hdi
                  refine pwl_runk fun K' S hK' hS => ?_; simp [*]
                  repeat' (first | with_reducible refine pws_skip ?_ | ((with_reducible refine pws_regk fun K' S hK' hS => ?_); simp [argSlots, *]) | ((with_reducible refine Goes.go hK' ?_); clear hK' hS; clear K' S) | ((with_reducible refine pws_false ?_ ?_); (· simp; done)) | with_reducible refine blk_normal ?_ | with_reducible refine thenQ_normal ?_ | with_reducible refine pws_nil ?_)
                  refine hK2 _ ⟨(k + 1, ag, out), by simp; omega, hl⟩ (ent_sub rfl rfl rfl (by simp [SubL, *]) (by simp [SubL, *]) (by simp) (by simp; omega) (by simp [slotsBelow, SV.lo, belowL]) (by simp [heapBelow, ABlk.lo, SV.lo, belowL, slotsBelow])) hnx (by simp; omega)
                | false =>
                  have hnd : ¬ dOK F out R[i] k := fun h => by
                    rcases h with h | h | h
                    · rw [hgk, hgo] at h; cases h
                    · exact h ⟨h3, by rw [hnf]; exact of_eq_true ht, by rw [hnf]; exact hz⟩
                    · rw [hnf, hf] at h; cases h
                  have hnx := hdi.put hi1 hk1 hnd
                  have hps := pbools_set out k true
                  have hl2 : (out.set k true).length = F.length := by simp [hl]
                  clear hdi
                  refine pwl_runk fun K' S hK' hS => ?_; simp [*]
                  repeat' (first | ((with_reducible refine pws_regk fun K' S hK' hS => ?_); simp [argSlots, *]) | ((with_reducible refine Goes.go hK' ?_); clear hK' hS; clear K' S) | ((with_reducible refine pws_true ?_ ?_); (· simp; done)) | with_reducible refine blk_normal ?_ | with_reducible refine thenQ_normal ?_ | with_reducible refine pws_nil ?_)
                  refine hK2 _ ⟨(k + 1, true, out.set k true), by simp; omega, hl2⟩ (ent_sub rfl rfl rfl (by simp [SubL, *]) (by simp [SubL, *]) (by simp) (by simp; omega) (by simp [slotsBelow, SV.lo, belowL]) (by simp [heapBelow, ABlk.lo, SV.lo, belowL, slotsBelow])) hnx (by simp; omega)
            · have hnx := hdi.next hi1 (.inr (.inl (by rw [hnf]; exact fun hn => ht0 hn.2.1)))
              clear hK1 hdi hK0
              repeat' (first | with_reducible refine pws_seq ?_ | with_reducible refine pws_skip ?_ | with_reducible refine pws_block ?_ | ((with_reducible refine pws_regk fun K' S hK' hS => ?_); simp [argSlots, *]) | ((with_reducible refine Goes.go hK' ?_); clear hK' hS; clear K' S) | ((with_reducible refine GoesS.go hS ?_); clear hK' hS; clear K' S) | ((with_reducible refine pws_true ?_ ?_); (· simp; done)) | with_reducible refine blk_same ?_ | with_reducible refine thenQ_normal ?_ | with_reducible refine pws_nil ?_ | with_reducible refine pws_exit ?_ | ((with_reducible refine pwl_callk (c := ?_) (x := ?_) (f := ?_) (svs := ?_) (cs := ?_) (Qr := ?_) true ?_ ?_ ?_ ?_ ?_ ?_ ?_ ?_ ?_); rotate_left 6; (· (simp [argSlots, *]; done)); (· rfl); (· rfl); (· (simp; with_reducible rfl)); (· (simp; with_reducible rfl)); (· first | (simp [bors, bor]; with_reducible rfl) | (simp [bors, bor, *]; with_reducible rfl)); (· rfl); (· ((with_reducible refine col_ok _ _))); (rintro sv hsv hsc; clear hsc; obtain rfl := hsv; refine ⟨(by first | (intro _; rfl) | (intro h; cases h)), ?_⟩; refine pwl_runk fun K' S hK' hS => ?_; simp [argSlots, *])))
              all_goals refine hK2 _ ⟨(k + 1, ag, out), by simp; omega, hl⟩ (ent_sub rfl rfl rfl (by simp [SubL, *]) (by simp [SubL, *]) (by simp) (by simp) (by simp [slotsBelow, SV.lo, belowL]) (by simp [heapBelow, ABlk.lo, SV.lo, belowL, slotsBelow])) hnx (by simp; omega)
        · obtain rfl : k = F.length := by omega
          have hnx := hdi.rule hi1 (.inl rfl)
          clear hK2 hdi hK0
          repeat' (first | with_reducible refine pws_seq ?_ | ((with_reducible refine pws_regk fun K' S hK' hS => ?_); simp [argSlots, *]) | ((with_reducible refine Goes.go hK' ?_); clear hK' hS; clear K' S) | ((with_reducible refine pws_false ?_ ?_); (· simp; done)) | with_reducible refine blk_normal ?_ | with_reducible refine blk_same ?_ | with_reducible refine thenQ_exit ?_ | with_reducible refine thenQ_normal ?_ | with_reducible refine pws_nil ?_ | with_reducible refine pws_exit ?_)
          refine hK1 _ ⟨(i + 1, ag, out), by simp; omega, hl⟩ (ent_sub rfl rfl rfl (by simp [SubL, *]) (by simp [SubL, *]) (by simp) (by simp) (by simp [slotsBelow, SV.lo, belowL]) (by simp [heapBelow, ABlk.lo, SV.lo, belowL, slotsBelow])) hnx (by simp; omega)
      · have hnx := hdi.rule hi1 (.inr h3)
        clear hdi hK0
        repeat' (first | with_reducible refine pws_seq ?_ | with_reducible refine pws_skip ?_ | with_reducible refine pws_block ?_ | ((with_reducible refine pws_regk fun K' S hK' hS => ?_); simp [argSlots, *]) | ((with_reducible refine Goes.go hK' ?_); clear hK' hS; clear K' S) | ((with_reducible refine pws_true ?_ ?_); (· simp; done)) | with_reducible refine blk_same ?_ | with_reducible refine thenQ_normal ?_ | with_reducible refine pws_nil ?_ | with_reducible refine pws_exit ?_)
        refine hK1 _ ⟨(i + 1, ag, out), by simp; omega, hl⟩ (ent_sub rfl rfl rfl (by simp [SubL, *]) (by simp [SubL, *]) (by simp) (by simp) (by simp [slotsBelow, SV.lo, belowL]) (by simp [heapBelow, ABlk.lo, SV.lo, belowL, slotsBelow])) hnx (by simp; omega)
    · obtain rfl : i = R.length := by omega
      have g1 := hdi.least
      have g2 := hdi.le
      have g3 := hdi.lt
      have g4 : ag = false → IsDang R F out := fun h => by subst h; exact hdi.done
      clear hK1 hdi
      repeat' (first | with_reducible refine pws_seq ?_ | ((with_reducible refine pws_regk fun K' S hK' hS => ?_); simp [argSlots, *]) | ((with_reducible refine Goes.go hK' ?_); clear hK' hS; clear K' S) | ((with_reducible refine pws_false ?_ ?_); (· simp; done)) | with_reducible refine blk_normal ?_ | with_reducible refine blk_same ?_ | with_reducible refine thenQ_exit ?_ | with_reducible refine thenQ_normal ?_ | with_reducible refine pws_nil ?_ | with_reducible refine pws_exit ?_)
      refine hK0 _ ⟨(ag, out), hl⟩ (ent_sub rfl rfl rfl (by simp [SubL, *]) (by simp [SubL, *]) (by simp) (by simp) (by simp [slotsBelow, SV.lo, belowL]) (by simp [heapBelow, ABlk.lo, SV.lo, belowL, slotsBelow])) ⟨g1, g4⟩ ?_
      show 2 * nfalse out + (if ag = true then 1 else 0) < 2 * nfalse out0 + (if true = true then 1 else 0)
      cases ag with
      | true => have := g3 rfl; simp; omega
      | false => simp; omega
  | false =>
    have hd := (hda0 rfl).gl
    have hal := all_pc F (by omega) 4 (HD0 F out0)
    clear hK0 hda0
    have hall : (allI F.length).length = F.length := by simp [allI]
    have hdel := deleteFunc_pc 93 [(3, 0)] [(3, .box [.loc 1 2 0 0 F.length]), (2, .arr 4 1 0 false (pbools out0))] (fun x => !gone out0 x.toNat) (allI F.length) 4 0 5 (kept_pc F out0 hl0 5) (by omega) (by simp [lk])
    have hfl : ((allI F.length).filter fun x => !!gone out0 x.toNat) = dangL R F := by
      rw [← hd]
      unfold gl
      congr 1
      funext x
      simp
    rw [hall, hfl] at hdel
    clear hd hfl
    repeat' (first | with_reducible refine pws_seq ?_ | ((with_reducible refine pws_regk fun K' S hK' hS => ?_); simp [argSlots, *]) | ((with_reducible refine Goes.go hK' ?_); clear hK' hS; clear K' S) | ((with_reducible refine GoesS.go hS ?_); clear hK' hS; clear K' S) | ((with_reducible refine pws_false ?_ ?_); (· simp; done)) | with_reducible refine blk_same ?_ | with_reducible refine thenQ_exit ?_ | with_reducible refine pws_exit ?_)
    refine pwl_callpk (c := ?_) (x := ?_) (f := 83) (caps := []) (svs := [.pv (.sl 6 (pfacts F))]) (own := []) (Hs := HD0 F out0) (Qr := _) ?_ ?_ ?_ ?_ ?_ ?_ (fun i b h => h) (fun i b h => by simp only [List.cons_append, List.nil_append, lk] at h ⊢; (repeat' split at h) <;> (try subst_vars) <;> first | (subst_vars; simp [*]; done) | (simp_all; done) | (simp_all; omega)) (by simpa [capRefs] using hal) ?_; rotate_left 2; (· first | rfl | (simp [*]; done)); (· rfl); (· rfl); (· first | rfl | (simp; done)); (· first | rfl | (simp; done)); (· rfl); rintro sv nx' H' hq hn hd
    obtain ⟨rfl, rfl, rfl⟩ := hq
    clear hal hd hn
    refine pwl_runk fun K' S hK' hS => ?_; simp [*]
    repeat' (first | ((with_reducible refine GoesS.go hS ?_); clear hK' hS; clear K' S))
    refine pwl_callpk (c := ?_) (x := ?_) (f := 92) (caps := []) (svs := [.loc 1 4 0 0 F.length, .clos 93 [(3, 0)]]) (own := [(1, .box [.clos 88 []]), (0, .box [.pv (.sl 6 (pfacts F))])]) (Hs := [(4, .arr 3 1 0 false (ints (allI F.length))), (3, .box [.loc 1 2 0 0 F.length]), (2, .arr 4 1 0 false (pbools out0))]) (Qr := _) ?_ ?_ ?_ ?_ ?_ ?_ (fun i b h => by simp only [List.cons_append, List.nil_append, lk] at h ⊢; (repeat' split at h) <;> (try subst_vars) <;> first | (simp_all; done) | (simp_all; omega) | (exfalso; omega)) (fun i b h => by simp only [List.cons_append, List.nil_append, lk] at h ⊢; (repeat' split at h) <;> (try subst_vars) <;> first | (subst_vars; simp [*]; done) | (simp_all; done) | (simp_all; omega)) (by simpa [capRefs] using hdel) ?_; rotate_left 2; (· first | rfl | (simp [*]; done)); (· rfl); (· rfl); (· first | rfl | (simp; done)); (· first | rfl | (simp; done)); (· rfl); rintro sv nx' H' hq hn hd
    obtain ⟨A, hA1, hA2, rfl, rfl⟩ := hq
    clear hdel hd hn
    refine pwl_runk fun K' S hK' hS => ?_; simp [*]
    repeat' (first | ((with_reducible refine Goes.go hK' ?_); clear hK' hS; clear K' S) | with_reducible refine pws_ret ?_)
    have hAl : (dangL R F).length ≤ A.length := by
      have := congrArg List.length hA2
      rw [List.length_take] at this
      omega
    have htk : List.take (dangL R F).length (ints A) = ints (dangL R F) := by rw [← List.map_take, hA2]
    refine finC_ret (vs := ?_) [.loc 1 4 0 0 (dangL R F).length] (.inr rfl) rfl ?_ ?_ ?_
    rotate_left
    · simp [Tryz.results35, resL, resOf]; rfl
    · simp [wrapRes, cv, SV.const, lk, St.frzs, St.frz, St.upd, hset, toPV, hAl]
    · simp [wrapRes, cv, lk, St.frzs, St.frz, St.upd, hset, toPV, htk, hAl]
      (repeat' (first | with_reducible exact SLe.refl _))
end
end Go.Proofs.T1
/- The library's sort, as a call in a heap of named blocks. -/
namespace Go.Proofs
open Go.Shelf
def Tryz.laysSort_ren : Go.Shelf.Ren := ⟨fun | 189 => 251 | 125 => 169 | 257 => 287 | 128 => 224 | 129 => 225 | 294 => 308 | 295 => 309 | 296 => 310 | 297 => 311 | 298 => 312 | 299 => 313 | 216 => 314 | 300 => 315 | 301 => 316 | 328 => 328 | 329 => 266 | 330 => 267 | 331 => 329 | 332 => 330 | 215 => 238 | 343 => 343 | n => n, fun | 28 => 24 | 3 => 3 | 46 => 229 | 0 => 0 | 51 => 267 | 53 => 291 | 4 => 4 | 183 => 283 | 182 => 282 | 131 => 287 | 5 => 5 | 9 => 9 | 218 => 314 | 222 => 318 | 228 => 355 | 229 => 356 | n => n, fun | n => n⟩
theorem Tryz.laysSort : Go.Proofs.Lays.n189 Tryz.prog Tryz.laysSort_ren := {
  mixed := by kernel_rfl
  f125 := Tryz.func169.trans (congrArg some (by kernel_rfl))
  f128 := Tryz.func224.trans (congrArg some (by kernel_rfl))
  f129 := Tryz.func225.trans (congrArg some (by kernel_rfl))
  f189 := Tryz.func251.trans (congrArg some (by kernel_rfl))
  f215 := Tryz.func238.trans (congrArg some (by kernel_rfl))
  f216 := Tryz.func314.trans (congrArg some (by kernel_rfl))
  f257 := Tryz.func287.trans (congrArg some (by kernel_rfl))
  f294 := Tryz.func308.trans (congrArg some (by kernel_rfl))
  f295 := Tryz.func309.trans (congrArg some (by kernel_rfl))
  f296 := Tryz.func310.trans (congrArg some (by kernel_rfl))
  f297 := Tryz.func311.trans (congrArg some (by kernel_rfl))
  f298 := Tryz.func312.trans (congrArg some (by kernel_rfl))
  f299 := Tryz.func313.trans (congrArg some (by kernel_rfl))
  f300 := Tryz.func315.trans (congrArg some (by kernel_rfl))
  f301 := Tryz.func316.trans (congrArg some (by kernel_rfl))
  f328 := Tryz.func328.trans (congrArg some (by kernel_rfl))
  f329 := Tryz.func266.trans (congrArg some (by kernel_rfl))
  f330 := Tryz.func267.trans (congrArg some (by kernel_rfl))
  f331 := Tryz.func329.trans (congrArg some (by kernel_rfl))
  f332 := Tryz.func330.trans (congrArg some (by kernel_rfl))
  f343 := Tryz.func343.trans (congrArg some (by kernel_rfl))
  t0 := Tryz.underlying0
  a0 := Tryz.isAgg0
  z0 := Tryz.sizeOf0
  v0 := Tryz.zeroValue0
  t3 := Tryz.underlying3
  a3 := Tryz.isAgg3
  z3 := Tryz.sizeOf3
  v3 := Tryz.zeroValue3
  t4 := Tryz.underlying4
  a4 := Tryz.isAgg4
  z4 := Tryz.sizeOf4
  v4 := Tryz.zeroValue4
  t5 := Tryz.underlying5
  a5 := Tryz.isAgg5
  z5 := Tryz.sizeOf5
  v5 := Tryz.zeroValue5
  t9 := Tryz.underlying9
  a9 := Tryz.isAgg9
  z9 := Tryz.sizeOf9
  v9 := Tryz.zeroValue9
  t28 := Tryz.underlying24
  a28 := Tryz.isAgg24
  z28 := Tryz.sizeOf24
  v28 := Tryz.zeroValue24
  t46 := Tryz.underlying229
  a46 := Tryz.isAgg229
  z46 := Tryz.sizeOf229
  v46 := Tryz.zeroValue229
  t51 := Tryz.underlying267
  a51 := Tryz.isAgg267
  z51 := Tryz.sizeOf267
  v51 := Tryz.zeroValue267
  t53 := Tryz.underlying291
  a53 := Tryz.isAgg291
  z53 := Tryz.sizeOf291
  v53 := Tryz.zeroValue291
  t131 := Tryz.underlying287
  a131 := Tryz.isAgg287
  z131 := Tryz.sizeOf287
  v131 := Tryz.zeroValue287
  t182 := Tryz.underlying282
  a182 := Tryz.isAgg282
  z182 := Tryz.sizeOf282
  v182 := Tryz.zeroValue282
  t183 := Tryz.underlying283
  a183 := Tryz.isAgg283
  z183 := Tryz.sizeOf283
  v183 := Tryz.zeroValue283
  t218 := Tryz.underlying314
  a218 := Tryz.isAgg314
  z218 := Tryz.sizeOf314
  v218 := Tryz.zeroValue314
  t222 := Tryz.underlying318
  a222 := Tryz.isAgg318
  z222 := Tryz.sizeOf318
  v222 := Tryz.zeroValue318
  t228 := Tryz.underlying355
  a228 := Tryz.isAgg355
  z228 := Tryz.sizeOf355
  v228 := Tryz.zeroValue355
  t229 := Tryz.underlying356
  a229 := Tryz.isAgg356
  z229 := Tryz.sizeOf356
  v229 := Tryz.zeroValue356 }
end Go.Proofs
namespace Go.Vc
open Go.RowKit Go.Sort
variable {P : Program}
/-- A row of one's own that the library has put in another order, with blocks behind. -/
theorem rh_sorted {α : Type} [Inhabited α] {enc : α → Value} {nx : Nat} {I : Nat → Nat → Prop} {φ : Phi} {H : List (Nat × ABlk)} {w : World} {id ta g b c n : Nat} {xs ys : List (List PV)} {d : Array α} {os : Array Obj} (hRH : RH nx I φ H w) (hl : lk id H = some (.arr ta 1 g false xs))
    (hφ : φ id g = some (some (b, c))) (hlen : ys.length = d.size) (hxy : ys.length = xs.length) (h1 : ∀ y ∈ ys, y.length = 1) (hrep : ∀ (k : Nat) p, get2 ys k 0 = some p → Rep I w p (enc d[k]!)) :
    RH nx I φ (hset id (.arr ta 1 g false ys) H) (grow (putRow enc (Sort.ahead w n) b 0 d) os) ∧ Ev nx I φ H w I φ (hset id (.arr ta 1 g false ys) H) (grow (putRow enc (Sort.ahead w n) b 0 d) os) := by
  obtain ⟨_, hx, hb⟩ := hRH.blk _ _ hl
  rcases hb with ⟨e, _⟩ | ⟨b', c', vs, e1, e2, e3, e4, e5, e6, _⟩
  · rw [hφ] at e; cases e
  rw [hφ] at e1
  cases e1
  have hR : R I φ { n := 0, nx := nx, s := [], h := H, d := [] } { tmps := #[], defers := [] } w := ⟨hRH, rfl, fun t sv h => (by cases h), rfl, fun k i h => by simp at h⟩
  obtain ⟨w1, hw1⟩ : ∃ w1, w1 = putRow enc (Sort.ahead w n) b 0 d := ⟨_, rfl⟩
  have hmb : ∀ zs, mblk φ id (.arr ta 1 g false zs) = some b := fun zs => by simp [mblk, hφ]
  have hnI : ∀ κ, ¬ I b κ := (hRH.mlt id _ b hl (hmb _)).2
  have hheap : w1.heap = w.heap.modify b (onCells (putCells enc 0 d)) := by rw [hw1]; rfl
  have hoth : ∀ k, k ≠ b → w1.heap[k]? = w.heap[k]? := fun k hk => by rw [hheap, Array.getElem?_modify, if_neg (fun h => hk h.symm)]
  have hself : w1.heap[b]? = some (.cells (putCells enc 0 d vs) ta (0, 0)) := by rw [hheap, Array.getElem?_modify, if_pos rfl, e2]; rfl
  have hsz : w1.heap.size = w.heap.size := by rw [hheap, Array.size_modify]
  have hIs : ∀ k κ, I k κ → w1.heap[k]? = w.heap[k]? := fun k κ hk => hoth k fun e => hnI κ (e ▸ hk)
  have hup := hR.upd (n0 := nx) (w' := w1) (blk' := .arr ta 1 g false ys) hl (hmb _) ⟨by rw [hw1]; rfl, by rw [hw1]; rfl, by rw [hw1]; rfl, by rw [hw1]; exact Nat.le_add_right _ _, hsz⟩ hoth
    ⟨by decide, h1, .inr ⟨b, c, _, hφ, hself, by simp [putCells, e3], by omega, e5, fun k j p hp => by
      have hk := get2_lt hp
      obtain ⟨y, hy, hj⟩ := Option.bind_eq_some_iff.1 hp
      have hy1 := h1 y (List.mem_of_getElem? hy)
      have hj0 : j = 0 := by
        have := (List.getElem?_eq_some_iff.1 hj).1
        omega
      subst hj0
      refine ⟨enc d[k]!, ?_, (hrep k p hp).mono hIs fun _ _ h => h⟩
      have hkv : k < vs.size := by omega
      simp only [putCells, Nat.mul_one, Nat.add_zero, Nat.zero_add, Nat.sub_zero]
      rw [Array.getElem?_mapIdx, Array.getElem?_eq_getElem hkv]
      simp
      omega, fun h => by cases h⟩⟩ rfl (hmb _)
  obtain ⟨h2, h3⟩ := hup
  have hold : ∀ k, k < w1.heap.size → (grow w1 os).heap[k]? = w1.heap[k]? := fun k hk => heap_grow_old w1 os hk
  have hge : w1.heap.size ≤ (grow w1 os).heap.size := by rw [size_grow]; omega
  rw [← hw1]
  have h4 := h2.grown hge hold (fun _ _ h => h) (fun _ _ h => .inl h) fun k κ hk => Nat.lt_of_lt_of_le (h2.rh.ilt k κ hk) hge
  refine ⟨h4.rh, h3.trans ⟨rfl, rfl, rfl, Nat.le_refl _, hge, fun _ _ h => h, fun k hk _ => hold k hk, fun _ h => .inl h, fun _ _ h => .inl h, fun _ _ _ _ h => h, fun _ _ _ => rfl, fun _ _ h => h⟩⟩
end Go.Vc
namespace Go.Proofs.T1
open Go.Vc Go.Sort Go.Shelf
def isort (zs : List Int) : List Int := zs.mergeSort fun x y => decide (x ≤ y)
theorem isort_perm (zs : List Int) : (isort zs).Perm zs := List.mergeSort_perm _ _
theorem isort_inc {zs : List Int} (h : zs.Nodup) : isort zs = incOf zs := by
  have hs : (isort zs).Pairwise fun a b => decide (a ≤ b) = true := List.pairwise_mergeSort (fun a b c h1 h2 => by simp at *; omega) (fun a b => by simp; omega) zs
  have hn : (isort zs).Nodup := (isort_perm zs).nodup_iff.2 h
  refine inc_ext ((hs.and hn).imp fun {a b} h => by obtain ⟨h1, h2⟩ := h; simp at h1; omega) inc_incOf fun x => ?_
  rw [mem_incOf]
  exact (isort_perm zs).mem_iff
theorem ints_get2 {zs : List Int} {k j : Nat} {p : PV} (h : get2 (ints zs) k j = some p) : ∃ hk : k < zs.length, p = pint zs[k] := by
  obtain ⟨y, hy, hj⟩ := Option.bind_eq_some_iff.1 h
  rw [List.getElem?_map] at hy
  obtain ⟨z, hz, rfl⟩ := Option.map_eq_some_iff.1 hy
  obtain ⟨hk, rfl⟩ := List.getElem?_eq_some_iff.1 hz
  cases j with
  | zero => simp at hj; exact ⟨hk, hj.symm⟩
  | succ j => simp at hj
theorem sort_pc (id g ta : Nat) (zs : List Int) (hz : 0 < zs.length) (hb : zs.length < 4611686018427387904) (nx : Nat) (H : List (Nat × ABlk)) (hl : lk id H = some (.arr ta 1 g false (ints zs))) :
    PC Tryz.prog 251 [.loc 1 id g 0 zs.length] nx H (fun _ nx' H' => nx' = nx ∧ H' = hset id (.arr ta 1 g false (ints (isort zs))) H) := by
  refine ⟨enters251, fun I φ w vs hRH hvl hvs => ?_⟩
  match vs, hvl with
  | [v], _ =>
    have hs := hvs 0 _ v rfl rfl
    generalize hn : zs.length = n at hs
    cases hs with
    | locNil => omega
    | loc _ _ _ _ _ b c A hφ hle hmx hA =>
      obtain rfl := hA (.inr rfl)
      obtain ⟨_, hx, hbk⟩ := hRH.blk _ _ hl
      rcases hbk with ⟨e, _⟩ | ⟨b', c', cs, e1, e2, e3, e4, e5, e6, _⟩
      · rw [hφ] at e; cases e
      rw [hφ] at e1
      cases e1
      have hH : Holds (Value.int .i64) w b 0 zs.toArray := fun j hj => by
        have hj' : j < zs.length := by simpa using hj
        have hg : get2 (ints zs) j 0 = some (pint zs[j]) := by simp [get2, hj']
        obtain ⟨u, hu, hr⟩ := e6 j 0 _ hg
        cases hr
        refine ⟨?_, by simp [World.frozen?, e2]⟩
        rw [Nat.zero_add]
        simp only [World.cell?, e2]
        simp only [Nat.mul_one, Nat.add_zero] at hu
        rw [hu]
        simp [hj']
      have hblk : b < w.heap.size := (Array.getElem?_eq_some_iff.1 e2).1
      have hcon := Any.slices_Sort_int Tryz.laysSort b 0 (c - 0) zs w hH hblk hb
      rw [hn] at hcon
      have hcon2 : Calls Tryz.prog 251 #[.slice (some ⟨b, 0 * 1, none⟩) n (c - 0)] w _ := hcon
      refine (callsIn_of_calls hcon2).mono ?_
      rintro e w' ⟨rfl, q, os, rfl⟩
      obtain ⟨g1, g2⟩ := rh_sorted (enc := Value.int .i64) (n := q) (os := os) (ys := ints (isort zs)) (d := (isort zs).toArray) hRH hl hφ (by simp) (by simp [(isort_perm zs).length_eq]) (fun y hy => by
        obtain ⟨z, _, rfl⟩ := List.mem_map.1 hy
        rfl) (fun k p hp => by
        obtain ⟨hk, rfl⟩ := ints_get2 hp
        have : (isort zs).toArray[k]! = (isort zs)[k] := by simp [hk]
        rw [this]
        exact .lit _ rfl)
      exact ⟨_, .tup [], nx, _, I, φ, rfl, ⟨rfl, rfl⟩, g1, Nat.le_refl _, .tup [] [] rfl (fun j sv u hj => by simp at hj), g2⟩
end Go.Proofs.T1
namespace Go.Proofs.T1
open Go.Vc
open Tryz
set_option linter.unusedSimpArgs false
set_option linter.unusedVariables false
set_option maxHeartbeats 4000000
set_option maxRecDepth 20000
attribute [local simp] runD_nil runD_cons runDO runDG runDV stabs stabO stabG runK_nil runK_cons runG_t runG_f runS_some runS_none gate dstOf step2 step1 vq vop vlook mput mfind isKeyB keq fin1 hbox halloc hstore hbuild hbuildSlice happend hmake vslice bound vbuild partsOf elemsOf inOrder topvs toPV svCells splice srcOf isNil St.ev St.evs St.fits St.put St.new St.upd St.frzs St.frz lk hset litOf vbuiltin vlen vbin vindex vfield vload rdc pvs capsOf Value.oneCell'
attribute [local simp] tsz3 tagg3 tbytes3 tint3 tzero3 tzero1_3 tsz4 tagg4 tbytes4 tbool4 tzero4 tzero1_4 tsz5 tagg5 tbytes5 tint5 tzero5 tzero1_5 tsz9 tagg9 tbytes9 tstr9 tzero9 tzero1_9 tsz22 tagg22 tel22 tbytes22 tzero22 tzero1_22 tsz23 tagg23 tel23 tbytes23 tzero23 tzero1_23 tsz24 tagg24 tel24 tbytes24 tzero24 tzero1_24 tsz25 tagg25 tbytes25 tzero25 tzero1_25 tsz29 tagg29 tel29 tbytes29 tzero29 tzero1_29 tsz30 tagg30 tel30 tbytes30 tzero30 tzero1_30 tsz32 tagg32 tbytes32 tzero32 foff32_0 foff32_1 foff32_2 foff32_3 foff32_4 foff32_5 foff32_6 foff32_7 foff32_8 foff32_9 tsz33 tagg33 tel33 tbytes33 tzero33 tzero1_33 tsz34 tagg34 tbytes34 tint34 tzero34 tzero1_34 tsz38 tagg38 tbytes38 tzero38 foff38_0 foff38_1 foff38_2 tsz47 tagg47 tel47 tbytes47 tzero47 tzero1_47 tsz52 tagg52 tel52 tbytes52 tzero52 tzero1_52 tsz54 tagg54 tbytes54 tzero54 foff54_0 foff54_1 foff54_2 foff54_3 foff54_4 foff54_5 tsz79 tagg79 tbytes79 tzero79 foff79_0 foff79_1 foff79_2 tsz117 tagg117 tbytes117 tzero117 foff117_0 foff117_1 foff117_2 tsz119 tagg119 tbytes119 tzero119 foff119_0 foff119_1 tsz121 tagg121 tbytes121 tzero121 foff121_0 foff121_1 foff121_2 foff121_3 tsz129 tagg129 tbytes129 tzero129 tzero1_129 tsz130 tagg130 tbytes130 tzero130 tzero1_130 tsz132 tagg132 tbytes132 tzero132 tzero1_132 tsz206 tagg206 tbytes206 tzero206 tzero1_206 mtype206 tsz208 tagg208 tbytes208 tsz217 tagg217 tel217 tbytes217 tzero217 tzero1_217 tsz220 tagg220 tbytes220 tzero220 foff220_0 foff220_1 tsz235 tagg235 tel235 tbytes235 tzero235 tzero1_235 tsz256 tagg256 tbytes256 tzero256 tzero1_256 mtype256 tsz351 tagg351 tbytes351 tzero351 tsz2 tagg2 tbytes2 tint2 tzero2 tzero1_2 tsz291 tagg291 tbytes291 tint291 tzero291 tzero1_291 sized32 places32_0 places32_1 places32_2 places32_3 places32_4 places32_5 places32_6 places32_7 places32_8 places32_9 sized38 places38_0 places38_1 places38_2 sized54 places54_0 places54_1 places54_2 places54_3 places54_4 places54_5 sized79 places79_0 places79_1 places79_2 sized117 places117_0 places117_1 places117_2 sized119 places119_0 places119_1 sized121 places121_0 places121_1 places121_2 places121_3 sized220 places220_0 places220_1
section
attribute [local simp] V.c V.z Sd.c Tst.c Fx.c Rl.c Fc.c Gr.c wrap1f take_map_len take_map_len1 wrap1 wrap2 wrap3
theorem values_pc (id g n nx : Nat) (H : List (Nat × ABlk)) : PC Tryz.prog 201 [.loc 1 id g 0 n] nx H (fun sv nx' H' => sv = .clos 256 [(nx, 0)] ∧ nx' = nx + 1 ∧ H' = (nx, .box [.loc 1 id g 0 n]) :: H) := by
  refine pc_of_pw' (fn := Tryz.f201) Tryz.func201 rfl enters201 Tryz.ntmps201 (by simp [capRefs]) (pw_of_pws ?_)
  repeat' (first | with_reducible refine pws_seq ?_ | ((with_reducible refine pws_regk fun K' S hK' hS => ?_); simp [argSlots, capRefs, *]) | ((with_reducible refine Goes.go hK' ?_); clear hK' hS; clear K' S) | with_reducible refine pws_ret ?_)
  all_goals (refine finP_ret (vs := ?_) [] (by first | exact .inr rfl | exact .inl rfl) rfl ?_ ?_; rotate_left; (· simp [Tryz.results201, resL, resOf, *]; rfl); (· first | (simp [wrapRes, cv, *]; done) | (simp [wrapRes, cv, *]; grind) | (simp [wrapRes, cv, *]; omega)))
theorem values_it (bx id g ta : Nat) (zs : List Int) (hlen : zs.length ≤ 1000000) : ItC Tryz.prog 256 [(bx, 0)] [(bx, .box [.loc 1 id g 0 zs.length])] (fun H => lk id H = some (.arr ta 1 g false (ints zs))) (zs.map sint) := by
  intro y nx H C D hS hstep hmono hdis h0
  have hne : ¬ bx = id := disj_ne hdis (if_pos rfl) (hS _ _ _ h0)
  refine pc_of_pw' (fn := Tryz.f256) Tryz.func256 rfl enters256 Tryz.ntmps256 (by simp [capRefs]) (pw_of_pws ?_)
  have hlH : lk id H = some (.arr ta 1 g false (ints zs)) := hS _ _ _ h0
  repeat' (first | with_reducible refine pws_seq ?_ | with_reducible refine pws_block ?_ | ((with_reducible refine pws_regk fun K' S hK' hS => ?_); simp [argSlots, capRefs, *]) | ((with_reducible refine Goes.go hK' ?_); clear hK' hS; clear K' S))
  refine pws_loop (α := { q : Nat × Nat × List (Nat × ABlk) // q.1 ≤ zs.length }) (fun q => { n := 16, nx := q.1.2.1, s := [(7, sint q.1.1), (6, sint zs.length), (5, .loc 1 id g 0 zs.length), (0, .yld y), (1, .ref bx 0)], h := [(bx, .box [.loc 1 id g 0 zs.length])] ++ q.1.2.2, d := [] }) (fun q => zs.length - q.1.1) (fun q => C ((zs.take q.1.1).map sint) q.1.2.1 q.1.2.2 ∧ disj [(bx, .box [.loc 1 id g 0 zs.length])] q.1.2.2 ∧ nx ≤ q.1.2.1) ⟨(0, nx, H), by simp⟩ ⟨by simpa using h0, hdis, Nat.le_refl _⟩ (ent_keep rfl rfl rfl (fun t sv h => SubL.get (by simp [SubL, *]) h) (fun i b h => h)) ?_
  clear hlH h0 hdis
  rintro ⟨⟨k, nx1, H1⟩, hk⟩ ⟨hC, hdis, hnx⟩ K hK
  simp only at hk hC hdis hnx
  have hlH : lk id H1 = some (.arr ta 1 g false (ints zs)) := hS _ _ _ hC
  by_cases h1 : k < zs.length
  · have hw := wrap64_id (n := (k : Int) + 1) (by omega)
    have hsp : zs.map sint = (zs.take k).map sint ++ sint zs[k] :: (zs.drop (k + 1)).map sint := by
      rw [← List.map_cons (f := fun n : Int => (sint n : SV)), ← List.map_append, ← List.drop_eq_getElem_cons h1, List.take_append_drop]
    have hst := hstep _ _ _ hsp nx1 H1 hC
    repeat' (first | with_reducible refine pws_seq ?_ | with_reducible refine pws_skip ?_ | with_reducible refine pws_block ?_ | ((with_reducible refine pws_regk fun K' S hK' hS => ?_); simp [argSlots, capRefs, *]) | ((with_reducible refine Goes.go hK' ?_); clear hK' hS; clear K' S) | ((with_reducible refine GoesS.go hS ?_); clear hK' hS; clear K' S) | ((with_reducible refine pws_true ?_ ?_); (· simp; done)))
    refine pwl_yieldk (c := ?_) (x := ?_) (y := y) (svs := [sint zs[k]]) (own := [(bx, .box [.loc 1 id g 0 zs.length])]) (Hs := H1) (Qr := _) ?_ ?_ ?_ ?_ ?_ ?_ rfl (hdis) (hst) ?_; rotate_left 2; (· first | rfl | (simp [*]; done)); (· rfl); (· rfl); (· first | rfl | (simp; done)); (· first | rfl | (simp; done)); (· rfl); rintro sv nx' H' hq hn hd; simp only at hn; rcases hq with ⟨rfl, hc⟩ | ⟨rfl, hc⟩
    · have hC2 : C ((zs.take (k + 1)).map sint) nx' H' := by
        rw [List.take_succ_eq_append_getElem h1, List.map_append]
        exact hc
      clear hst hsp hlH hC hc
      refine pwl_runk fun K' S hK' hS => ?_; simp [*]
      repeat' (first | with_reducible refine pws_skip ?_ | ((with_reducible refine pws_regk fun K' S hK' hS => ?_); simp [argSlots, capRefs, *]) | ((with_reducible refine Goes.go hK' ?_); clear hK' hS; clear K' S) | ((with_reducible refine pws_false ?_ ?_); (· simp; done)) | with_reducible refine blk_normal ?_ | with_reducible refine thenQ_normal ?_ | with_reducible refine pws_nil ?_)
      refine hK _ ⟨(k + 1, nx', H'), by simp; omega⟩ (ent_keep rfl rfl rfl (fun t sv h => SubL.get (by simp [SubL, *]) h) (fun i b h => h)) ⟨hC2, hd, by simp; omega⟩ (by simp; omega)
    · clear hst hsp hlH hC hK
      refine pwl_runk fun K' S hK' hS => ?_; simp [*]
      repeat' (first | ((with_reducible refine Goes.go hK' ?_); clear hK' hS; clear K' S) | ((with_reducible refine pws_true ?_ ?_); (· simp; done)) | with_reducible refine pws_ret ?_ | with_reducible refine blk_ret ?_ | with_reducible refine thenQ_ret ?_)
      refine finP_end (vs := []) (.inr rfl) (ent_keep (st' := { n := 16, nx := nx', s := [], h := H', d := [] }) rfl rfl rfl (fun t sv h => by cases h) (disj_sub hd)) rfl rfl ?_
      exact .inr ⟨_, hc⟩
  · obtain rfl : k = zs.length := by omega
    rw [List.take_length] at hC
    clear hK hlH
    repeat' (first | with_reducible refine pws_seq ?_ | ((with_reducible refine pws_regk fun K' S hK' hS => ?_); simp [argSlots, capRefs, *]) | ((with_reducible refine Goes.go hK' ?_); clear hK' hS; clear K' S) | ((with_reducible refine pws_false ?_ ?_); (· simp; done)) | with_reducible refine blk_same ?_ | with_reducible refine thenQ_exit ?_ | with_reducible refine pws_nil ?_ | with_reducible refine pws_exit ?_)
    refine finP_end (vs := []) (.inl rfl) (ent_keep (st' := { n := 16, nx := nx1, s := [], h := H1, d := [] }) rfl rfl rfl (fun t sv h => by cases h) (disj_sub hdis)) rfl rfl ?_
    exact .inl hC
end
section
attribute [local simp] V.c V.z Sd.c Tst.c Fx.c Rl.c Fc.c Gr.c wrap1f take_map_len take_map_len1 wrap1 wrap2 wrap3
abbrev HA (nx k : Nat) (zs : List Int) (blk : ABlk) (Hc : List (Nat × ABlk)) : List (Nat × ABlk) := (nx + 3, blk) :: (nx + 2, .dfr true) :: (nx + 1, .arr 3 1 k false (ints (zs.take k))) :: (nx, .box [.loc 1 (nx + 1) k 0 k]) :: Hc
theorem appendSeq_pc (gf : Nat) (caps : List (Nat × Nat)) (own : List (Nat × ABlk)) (S : List (Nat × ABlk) → Prop) (zs : List Int) (hIt : ItC Tryz.prog gf caps own S (zs.map sint)) (nx : Nat) (Hc : List (Nat × ABlk)) (hdis : disj own Hc) (hlen : zs.length ≤ 1000000)
    (hS : ∀ pre, (∀ i b, lk i pre = some b → nx ≤ i) → S (pre ++ Hc)) :
    PC Tryz.prog 289 [.pv (.lit (.slice none 0 0)), .clos gf caps] nx (own ++ Hc) (fun sv nx' H' => sv = .loc 1 (nx + 1) zs.length 0 zs.length ∧ H' = (nx + 1, .arr 3 1 zs.length false (ints zs)) :: Hc ∧ lk (nx + 1) Hc = none) := by
  refine PC.dom enters289 fun hdom => ?_
  have hcn : ∀ i b, lk i Hc = some b → i < nx := fun i b hl => hdom i b (disj_sub hdis i b hl)
  have hon : ∀ i b, lk i own = some b → i < nx := fun i b hl => hdom i b (lk_append_left hl)
  have hn1 : lk (nx + 1) Hc = none := by
    cases h : lk (nx + 1) Hc with
    | none => rfl
    | some b => have := hcn _ _ h; omega
  refine PC.drop (Q := fun sv nx' H2 => sv = .loc 1 (nx + 1) zs.length 0 zs.length ∧ ∃ x y z, H2 = (nx + 3, x) :: (nx + 2, y) :: (nx + 1, .arr 3 1 zs.length false (ints zs)) :: (nx, z) :: Hc) ?_ ?_
  rotate_left
  · rintro sv nx' H2 ⟨h1, x, y, z, rfl⟩
    refine ⟨_, ⟨h1, rfl, hn1⟩, fun i b hl => ?_⟩
    simp only [lk] at hl ⊢
    split at hl
    · rename_i e
      rw [if_neg (by omega), if_neg (by omega), if_pos e]
      exact hl
    · rename_i e
      have := hcn i b hl
      rw [if_neg (by omega), if_neg (by omega), if_neg e, if_neg (by omega)]
      exact hl
  refine pc_of_pw' (fn := Tryz.f289) Tryz.func289 rfl enters289 Tryz.ntmps289 (by simp [capRefs]) (pw_of_pws ?_)
  repeat' (first | with_reducible refine pws_seq ?_ | with_reducible refine pws_block ?_ | ((with_reducible refine pws_regk fun K' S hK' hS => ?_); simp [argSlots, capRefs, *]) | ((with_reducible refine Goes.go hK' ?_); clear hK' hS; clear K' S))
  refine pws_ent (ent_adopt (b := nx) (j := 0) (t := 3) (es := 1) (cs := [.pv (.lit (.slice none 0 0))]) (by simp [lk]) rfl (by decide)) ?_
  simp [St.upd, hset, lk, St.new]
  refine pws_it_outer (own := own) (Hc := [(nx + 1, .arr 3 1 0 false []), (nx, .box [.loc 1 (nx + 1) 0 0 0])] ++ Hc) (fun blk ys nx' H' => ∃ k, k ≤ zs.length ∧ ys = (zs.take k).map sint ∧ H' = HA nx k zs blk Hc ∧ nx + 4 ≤ nx') (fun _ _ _ _ => False) rfl hIt ?_ ?_ ?_ ?_ ?_ ?_ ?_ ?_
  · intro i b hl
    rcases lk_append_cases hl with h | ⟨hn, h⟩
    · have := hon i b h
      simp only [lk]
      rw [if_neg (by omega), if_neg (by omega)]
      exact lk_append_left h
    · simp only [List.cons_append, List.nil_append, lk] at h ⊢
      split at h
      · rename_i e; rw [if_pos e]; exact h
      · rename_i e
        rw [if_neg e]
        split at h
        · rename_i e2; rw [if_pos e2]; exact h
        · rename_i e2
          rw [if_neg e2, lk_append_right hn]
          exact h
  · intro i b hl
    have := hon i b hl
    simp only [List.cons_append, List.nil_append, lk]
    rw [if_neg (by omega), if_neg (by omega)]
    exact hdis i b hl
  · rintro ys nx2 H2 ⟨k, hk, rfl, rfl, hn⟩
    refine hS [(nx + 3, _), (nx + 2, _), (nx + 1, _), (nx, _)] fun i b h => ?_
    simp only [lk] at h
    (repeat' split at h) <;> first | omega | cases h
  · rintro ys x zs' hsp nx2 H2 ⟨k, hk, rfl, rfl, hn⟩
    have hlt : k < zs.length := by
      have := congrArg List.length hsp
      simp at this
      omega
    obtain rfl : x = sint zs[k] := by
      have := congrArg (fun l : List SV => l[k]?) hsp
      simp only [List.getElem?_map, List.getElem?_eq_getElem hlt, Option.map_some] at this
      rw [List.getElem?_append_right (by simp; omega)] at this
      simp [Nat.min_eq_left hk] at this
      exact this.symm
    have hb1 : (k + 1) * 8 ≤ 140737488355328 := by omega
    have hlt2 : (ints (zs.take k)).length = k := by simp; omega
    have htt : List.take k (ints (zs.take k)) = ints (zs.take k) := List.take_of_length_le (by rw [hlt2]; omega)
    have hsu : ints (zs.take (k + 1)) = ints (zs.take k) ++ [[pint zs[k]]] := by
      rw [List.take_succ_eq_append_getElem hlt]
      exact List.map_append
    refine yc_of_pw (L := nx + 1 + 1 + 1) (if_pos rfl) rfl (by simp) ?_
    refine pw_of_pws ?_
    have ne_nx2_nx___3 : ¬ nx2 = nx + 3 := by omega
    have ne_nx2_nx___3' : ¬ nx + 3 = nx2 := by omega
    have ne_nx2_nx___2 : ¬ nx2 = nx + 2 := by omega
    have ne_nx2_nx___2' : ¬ nx + 2 = nx2 := by omega
    have ne_nx2_nx___1 : ¬ nx2 = nx + 1 := by omega
    have ne_nx2_nx___1' : ¬ nx + 1 = nx2 := by omega
    have ne_nx2_nx : ¬ nx2 = nx := by omega
    have ne_nx2_nx' : ¬ nx = nx2 := by omega
    generalize hG : ints (zs.take k) = G at *
    simp [putAll]
    repeat' (first | ((with_reducible refine pws_regk fun K' S hK' hS => ?_); simp [argSlots, capRefs, *]) | ((with_reducible refine Goes.go hK' ?_); clear hK' hS; clear K' S) | with_reducible refine pws_nil ?_)
    refine ⟨rfl, by simp [lk], ?_⟩
    refine pw_entpost (pw_of_pws ?_)
    simp [St.upd, hset, lk]
    repeat' (first | with_reducible refine pws_block ?_ | ((with_reducible refine pws_regk fun K' S hK' hS => ?_); simp [argSlots, capRefs, *]) | ((with_reducible refine Goes.go hK' ?_); clear hK' hS; clear K' S) | with_reducible refine blk_normal ?_ | with_reducible refine pws_nil ?_)
    have hcn2 : lk nx2 Hc = none := by
      cases h : lk nx2 Hc with
      | none => rfl
      | some b => have := hcn _ _ h; omega
    refine ⟨_, ent_droph (by simp [lk, *]), ?_⟩
    refine ⟨by simp [lk], Or.inl ⟨rfl, k + 1, hlt, ?_, ?_, ?_⟩⟩
    · rw [List.take_succ_eq_append_getElem (by simpa using hlt)]
      simp
    · simp only [HA]
      rw [hsu]
      simp [hset]
      rw [List.take_take, Nat.min_self]
      simpa using hG
    · simp
      omega
  · rintro ys nx2 nx3 H2 ⟨k, hk, e1, e2, hn⟩ hle
    exact ⟨k, hk, e1, e2, by omega⟩
  · exact ⟨0, by omega, by simp, by simp [HA], by simp⟩
  · rintro sv nx2 H2 ⟨k, hk, e1, rfl, hn⟩
    obtain rfl : k = zs.length := by
      have := congrArg List.length e1
      simp at this
      omega
    refine ⟨.ready, none, if_pos rfl, by decide, ?_⟩
    simp [hset, HA]
    refine thenQ_normal ?_
    repeat' (first | with_reducible refine pws_seq ?_ | ((with_reducible refine pws_regk fun K' S hK' hS => ?_); simp [argSlots, capRefs, *]) | ((with_reducible refine Goes.go hK' ?_); clear hK' hS; clear K' S) | with_reducible refine pws_ret ?_ | with_reducible refine blk_normal ?_ | with_reducible refine pws_nil ?_)
    refine finP_end (vs := [.loc 1 (nx + 1) zs.length 0 zs.length]) (h := ?_) (.inr rfl) (Ent.refl _) ?_ ?_ ?_
    rotate_left
    · simp [shut, lk, hset]
      rfl
    · simp [Tryz.results289, resL, resOf, lk]
    · exact ⟨by simp [wrapRes, cv, toPV, lk], _, _, _, rfl⟩
  · rintro ys sv nx2 H2 hf
    exact hf.elim
end
section
attribute [local simp] V.c V.z Sd.c Tst.c Fx.c Rl.c Fc.c Gr.c wrap1f take_map_len take_map_len1 wrap1 wrap2 wrap3
theorem collect_pc (gf : Nat) (caps : List (Nat × Nat)) (own : List (Nat × ABlk)) (S : List (Nat × ABlk) → Prop) (zs : List Int) (hIt : ItC Tryz.prog gf caps own S (zs.map sint)) (nx : Nat) (Hc : List (Nat × ABlk)) (hdis : disj own Hc) (hlen : zs.length ≤ 1000000)
    (hS : ∀ pre, (∀ i b, lk i pre = some b → nx ≤ i) → S (pre ++ Hc)) :
    PC Tryz.prog 255 [.clos gf caps] nx (own ++ Hc) (fun sv nx' H' => sv = .loc 1 (nx + 1) zs.length 0 zs.length ∧ H' = (nx + 1, .arr 3 1 zs.length false (ints zs)) :: Hc ∧ lk (nx + 1) Hc = none) := by
  have hcon := appendSeq_pc gf caps own S zs hIt nx Hc hdis hlen hS
  refine pc_of_pw' (fn := Tryz.f255) Tryz.func255 rfl enters255 Tryz.ntmps255 (by simp [capRefs]) (pw_of_pws ?_)
  repeat' (first | with_reducible refine pws_seq ?_ | ((with_reducible refine pws_regk fun K' S hK' hS => ?_); simp [argSlots, capRefs, *]) | ((with_reducible refine Goes.go hK' ?_); clear hK' hS; clear K' S) | ((with_reducible refine GoesS.go hS ?_); clear hK' hS; clear K' S))
  refine pwl_callpk (c := ?_) (x := ?_) (f := 289) (caps := []) (svs := [.pv (.lit (.slice none 0 0)), .clos gf caps]) (own := []) (Hs := own ++ Hc) (Qr := _) ?_ ?_ ?_ ?_ ?_ ?_ (fun i b h => h) (fun i b h => by cases h) (by simpa [capRefs] using hcon) ?_
  rotate_left 2
  · first | rfl | (simp; done)
  · rfl
  · rfl
  · rfl
  · rfl
  · rfl
  rintro sv nx' H' ⟨rfl, rfl, hn1⟩ hn _
  refine pwl_runk fun K' S hK' hS => ?_; simp [*]
  repeat' (first | ((with_reducible refine Goes.go hK' ?_); clear hK' hS; clear K' S) | with_reducible refine pws_ret ?_)
  refine finP_ret (vs := ?_) [] (.inr rfl) rfl ?_ ?_
  rotate_left
  · simp [Tryz.results255, resL, resOf]; rfl
  · exact ⟨by simp [wrapRes, cv, toPV, lk, St.frzs], rfl, hn1⟩
theorem sorted_pc (gf : Nat) (caps : List (Nat × Nat)) (own : List (Nat × ABlk)) (S : List (Nat × ABlk) → Prop) (zs : List Int) (hIt : ItC Tryz.prog gf caps own S (zs.map sint)) (nx : Nat) (Hc : List (Nat × ABlk)) (hdis : disj own Hc) (hlen : zs.length ≤ 1000000) (hz : 0 < zs.length)
    (hS : ∀ pre, (∀ i b, lk i pre = some b → nx ≤ i) → S (pre ++ Hc)) :
    PC Tryz.prog 200 [.clos gf caps] nx (own ++ Hc) (fun sv nx' H' => sv = .pv (.sl 1 (ints (isort zs))) ∧ H' = Hc) := by
  have hcon := collect_pc gf caps own S zs hIt nx Hc hdis hlen hS
  have hil : (isort zs).length = zs.length := (isort_perm zs).length_eq
  refine PC.drop (Q := fun sv nx' H2 => sv = .pv (.sl 1 (ints (isort zs))) ∧ lk (nx + 1) Hc = none ∧ ∃ x, H2 = (nx + 1, x) :: Hc) ?_ ?_
  rotate_left
  · rintro sv nx' H2 ⟨h1, hn1, x, rfl⟩
    refine ⟨_, ⟨h1, rfl⟩, fun i b hl => ?_⟩
    simp only [lk]
    split
    · rename_i e
      subst e
      rw [hn1] at hl
      cases hl
    · exact hl
  refine pc_of_pw' (fn := Tryz.f200) Tryz.func200 rfl enters200 Tryz.ntmps200 (by simp [capRefs]) (pw_of_pws ?_)
  repeat' (first | with_reducible refine pws_seq ?_ | ((with_reducible refine pws_regk fun K' S hK' hS => ?_); simp [argSlots, capRefs, *]) | ((with_reducible refine Goes.go hK' ?_); clear hK' hS; clear K' S) | ((with_reducible refine GoesS.go hS ?_); clear hK' hS; clear K' S))
  refine pwl_callpk (c := ?_) (x := ?_) (f := 255) (caps := []) (svs := [.clos gf caps]) (own := []) (Hs := own ++ Hc) (Qr := _) ?_ ?_ ?_ ?_ ?_ ?_ (fun i b h => h) (fun i b h => by cases h) (by simpa [capRefs] using hcon) ?_
  rotate_left 2
  · first | rfl | (simp; done)
  · rfl
  · rfl
  · rfl
  · rfl
  · rfl
  rintro sv nx' H' ⟨rfl, rfl, hn1⟩ hn _
  refine pwl_runk fun K' S hK' hS => ?_; simp [*]
  repeat' (first | with_reducible refine pws_seq ?_ | ((with_reducible refine pws_regk fun K' S hK' hS => ?_); simp [argSlots, capRefs, *]) | ((with_reducible refine Goes.go hK' ?_); clear hK' hS; clear K' S) | ((with_reducible refine GoesS.go hS ?_); clear hK' hS; clear K' S))
  have hso := sort_pc (nx + 1) zs.length 3 zs hz (by omega) nx' ((nx + 1, .arr 3 1 zs.length false (ints zs)) :: Hc) (if_pos rfl)
  refine pwl_callpk (c := ?_) (x := ?_) (f := 251) (caps := []) (svs := [.loc 1 (nx + 1) zs.length 0 zs.length]) (own := []) (Hs := (nx + 1, .arr 3 1 zs.length false (ints zs)) :: Hc) (Qr := _) ?_ ?_ ?_ ?_ ?_ ?_ (fun i b h => h) (fun i b h => by cases h) (by simpa [capRefs] using hso) ?_
  rotate_left 2
  · first | rfl | (simp; done)
  · rfl
  · rfl
  · rfl
  · rfl
  · rfl
  rintro sv nx'' H' ⟨rfl, rfl⟩ hn2 _
  simp only [hset, if_true]
  refine pwl_runk fun K' S hK' hS => ?_; simp [*]
  repeat' (first | with_reducible refine pws_seq ?_ | ((with_reducible refine pws_regk fun K' S hK' hS => ?_); simp [argSlots, capRefs, *]) | ((with_reducible refine Goes.go hK' ?_); clear hK' hS; clear K' S) | with_reducible refine pws_ret ?_)
  have htk : List.take zs.length (ints (isort zs)) = ints (isort zs) := List.take_of_length_le (by simp [hil])
  refine finP_ret (vs := ?_) [.loc 1 (nx + 1) zs.length 0 zs.length] (.inr rfl) rfl ?_ ?_
  rotate_left
  · simp [Tryz.results200, resL, resOf]; rfl
  · refine ⟨?_, hn1, _, by simp [St.frzs, St.frz, lk, hset, St.upd]; rfl⟩
    simp [wrapRes, cv, toPV, lk, St.frzs, St.frz, hset, St.upd, hil, htk]
end
section
attribute [local simp] V.c V.z Sd.c Tst.c Fx.c Rl.c Fc.c Gr.c wrap1f take_map_len take_map_len1 wrap1 wrap2 wrap3
abbrev caP (p q : Nat) : List (Nat × Nat) := [(q + 1, 0), (p, 0), (q, 0), (p + 2, 0), (p + 1, 0), (q + 2, 0)]
abbrev HP (d : Rl) (F : List Fc) (cs : List Int) (p q y g : Nat) (a : List Int) : List (Nat × ABlk) :=
  [(q + 3, .arr 3 1 g false (ints a)), (q + 2, .box [.clos 199 (caP p q)]), (q + 1, .box [.loc 1 (q + 3) g 0 a.length]), (q, .box [.yld y]), (p + 2, .box [.pv (.sl 1 (ints cs))]), (p + 1, .box [.pv (.sl 6 (pfacts F))]), (p, .box (d.c.map .pv))]
def NPH (p q : Nat) (H : List (Nat × ABlk)) : Prop := lk (q + 3) H = none ∧ lk (q + 2) H = none ∧ lk (q + 1) H = none ∧ lk q H = none ∧ lk (p + 2) H = none ∧ lk (p + 1) H = none ∧ lk p H = none
theorem disjP {d : Rl} {F : List Fc} {cs : List Int} {p q y g : Nat} {a : List Int} {H : List (Nat × ABlk)} (h : NPH p q H) : disj (HP d F cs p q y g a) H := fun i b hl => by
  obtain ⟨h1, h2, h3, h4, h5, h6, h7⟩ := h
  simp only [lk] at hl
  (repeat' split at hl) <;> (try subst_vars) <;> first | assumption | cases hl
theorem npP {d : Rl} {F : List Fc} {cs : List Int} {p q y g : Nat} {a : List Int} {H : List (Nat × ABlk)} (hpq : p + 3 ≤ q) (h : disj (HP d F cs p q y g a) H) : NPH p q H := by
  have ne_q___3_p : ¬ q + 3 = p := by omega
  have ne_q___3_p' : ¬ p = q + 3 := by omega
  have ne_q___3_p___1 : ¬ q + 3 = p + 1 := by omega
  have ne_q___3_p___1' : ¬ p + 1 = q + 3 := by omega
  have ne_q___3_p___2 : ¬ q + 3 = p + 2 := by omega
  have ne_q___3_p___2' : ¬ p + 2 = q + 3 := by omega
  have ne_q___2_p : ¬ q + 2 = p := by omega
  have ne_q___2_p' : ¬ p = q + 2 := by omega
  have ne_q___2_p___1 : ¬ q + 2 = p + 1 := by omega
  have ne_q___2_p___1' : ¬ p + 1 = q + 2 := by omega
  have ne_q___2_p___2 : ¬ q + 2 = p + 2 := by omega
  have ne_q___2_p___2' : ¬ p + 2 = q + 2 := by omega
  have ne_q___1_p : ¬ q + 1 = p := by omega
  have ne_q___1_p' : ¬ p = q + 1 := by omega
  have ne_q___1_p___1 : ¬ q + 1 = p + 1 := by omega
  have ne_q___1_p___1' : ¬ p + 1 = q + 1 := by omega
  have ne_q___1_p___2 : ¬ q + 1 = p + 2 := by omega
  have ne_q___1_p___2' : ¬ p + 2 = q + 1 := by omega
  have ne_q_p : ¬ q = p := by omega
  have ne_q_p' : ¬ p = q := by omega
  have ne_q_p___1 : ¬ q = p + 1 := by omega
  have ne_q_p___1' : ¬ p + 1 = q := by omega
  have ne_q_p___2 : ¬ q = p + 2 := by omega
  have ne_q_p___2' : ¬ p + 2 = q := by omega
  refine ⟨h _ _ (if_pos rfl), h _ (.box [.clos 199 (caP p q)]) ?_, h _ (.box [.loc 1 (q + 3) g 0 a.length]) ?_, h _ (.box [.yld y]) ?_, h _ (.box [.pv (.sl 1 (ints cs))]) ?_, h _ (.box [.pv (.sl 6 (pfacts F))]) ?_, h _ (.box (d.c.map .pv)) ?_⟩ <;> simp [HP, lk, *]
abbrev asgV (d : Rl) (F : List Fc) (cs : List Int) (n : Nat) (a : List Int) : List SV := (asg d F cs n a).map fun s => .pv (.sl 1 (ints s))
def PutQ (d : Rl) (F : List Fc) (cs : List Int) (p q y : Nat) (C D : List SV → Nat → List (Nat × ABlk) → Prop) (zs : List SV) (a : List Int) (sv : SV) (nx' : Nat) (H2 : List (Nat × ABlk)) : Prop :=
  (sv = sbool true ∧ ∃ g' H', H2 = HP d F cs p q y g' a ++ H' ∧ NPH p q H' ∧ C zs nx' H') ∨ (sv = sbool false ∧ ∃ ys', D ys' nx' H2)
theorem put_zero {d : Rl} {F : List Fc} {cs : List Int} {p q y nx g : Nat} {H : List (Nat × ABlk)} {C D : List SV → Nat → List (Nat × ABlk) → Prop} {ys : List SV} {a : List Int} (hpq : p + 3 ≤ q) (hq : q + 4 ≤ nx) (hnp : NPH p q H)
    (hmono : ∀ ys nx nx' H, C ys nx H → nx ≤ nx' → C ys nx' H) (hl : a.length = d.tables.length) (h0 : 0 < a.length) (hb : a.length ≤ 12) (hnd : a.Nodup)
    (hst : ∀ nx H, C ys nx H → YC Tryz.prog y [.pv (.sl 1 (ints (incOf a)))] nx H (ItQ C D ys (.pv (.sl 1 (ints (incOf a)))))) (hC : C ys nx H) :
    PC Tryz.prog 199 (capRefs (caP p q)) nx (HP d F cs p q y g a ++ H) (PutQ d F cs p q y C D (ys ++ asgV d F cs 0 a) a) := by
  have ne_q___3_p : ¬ q + 3 = p := by omega
  have ne_q___3_p' : ¬ p = q + 3 := by omega
  have ne_q___3_p___1 : ¬ q + 3 = p + 1 := by omega
  have ne_q___3_p___1' : ¬ p + 1 = q + 3 := by omega
  have ne_q___3_p___2 : ¬ q + 3 = p + 2 := by omega
  have ne_q___3_p___2' : ¬ p + 2 = q + 3 := by omega
  have ne_q___2_p : ¬ q + 2 = p := by omega
  have ne_q___2_p' : ¬ p = q + 2 := by omega
  have ne_q___2_p___1 : ¬ q + 2 = p + 1 := by omega
  have ne_q___2_p___1' : ¬ p + 1 = q + 2 := by omega
  have ne_q___2_p___2 : ¬ q + 2 = p + 2 := by omega
  have ne_q___2_p___2' : ¬ p + 2 = q + 2 := by omega
  have ne_q___1_p : ¬ q + 1 = p := by omega
  have ne_q___1_p' : ¬ p = q + 1 := by omega
  have ne_q___1_p___1 : ¬ q + 1 = p + 1 := by omega
  have ne_q___1_p___1' : ¬ p + 1 = q + 1 := by omega
  have ne_q___1_p___2 : ¬ q + 1 = p + 2 := by omega
  have ne_q___1_p___2' : ¬ p + 2 = q + 1 := by omega
  have ne_q_p : ¬ q = p := by omega
  have ne_q_p' : ¬ p = q := by omega
  have ne_q_p___1 : ¬ q = p + 1 := by omega
  have ne_q_p___1' : ¬ p + 1 = q := by omega
  have ne_q_p___2 : ¬ q = p + 2 := by omega
  have ne_q_p___2' : ¬ p + 2 = q := by omega
  refine PC.dom enters199 fun hdom => ?_
  have ne_nx_q___3 : ¬ nx = q + 3 := by omega
  have ne_nx_q___3' : ¬ q + 3 = nx := by omega
  have ne_nx_q___2 : ¬ nx = q + 2 := by omega
  have ne_nx_q___2' : ¬ q + 2 = nx := by omega
  have ne_nx_q___1 : ¬ nx = q + 1 := by omega
  have ne_nx_q___1' : ¬ q + 1 = nx := by omega
  have ne_nx_q : ¬ nx = q := by omega
  have ne_nx_q' : ¬ q = nx := by omega
  have ne_nx_p___2 : ¬ nx = p + 2 := by omega
  have ne_nx_p___2' : ¬ p + 2 = nx := by omega
  have ne_nx_p___1 : ¬ nx = p + 1 := by omega
  have ne_nx_p___1' : ¬ p + 1 = nx := by omega
  have ne_nx_p : ¬ nx = p := by omega
  have ne_nx_p' : ¬ p = nx := by omega
  have hl' : ((a.length : Int) = d.tables.length) = True := eq_true (by omega)
  have hl2 : (a.length = d.tables.length) = True := eq_true hl
  clear hl
  refine pc_of_pw' (fn := Tryz.f199) Tryz.func199 rfl enters199 Tryz.ntmps199 (by simp [capRefs]) (pw_of_pws ?_)
  simp only [capRefs, List.map_cons, List.map_nil, argSlots]
  repeat' (first | with_reducible refine pws_seq ?_ | ((with_reducible refine pws_regk fun K' S hK' hS => ?_); simp [argSlots, *]) | ((with_reducible refine Goes.go hK' ?_); clear hK' hS; clear K' S) | ((with_reducible refine pws_true ?_ ?_); (· simp; done)) | ((with_reducible refine pws_drawk [2, 3, 4] [0, 1, 2, 3, 4, 5] [] ?_ fun K' S hK' hS => ?_); (· decide +kernel); simp [argSlots, *]) | ((with_reducible refine GoesD.go hS ?_); clear hK' hS; clear K' S))
  have hfr : disj [(nx, .box [.loc 1 (q + 3) g 0 a.length])] (HP d F cs p q y g a ++ H) := fun i b hl => by
    simp only [lk] at hl
    split at hl
    · rename_i e
      subst e
      cases hx : lk nx (HP d F cs p q y g a ++ H) with
      | none => rfl
      | some c => have := hdom _ _ hx; omega
    · cases hl
  have hv0 := values_pc (q + 3) g a.length nx (HP d F cs p q y g a ++ H)
  refine pwd_callpk (eff := [2, 3, 4]) (i := 2) (c := [1, 0]) (c' := [0]) (o := ?_) (cl := ?_) (x := ?_) (f := 201) (caps := []) (svs := [.loc 1 (q + 3) g 0 a.length]) (own := []) (Hs := HP d F cs p q y g a ++ H) (Qr := _) ?_ ?_ ?_ ?_ ?_ ?_ ?_ ?_ ?_ ?_ (fun i b h => h) (fun i b h => by cases h) (by simpa [capRefs] using hv0) ?_; rotate_left 3; (· rfl); (· rfl); (· first | rfl | (simp [*]; done)); (· first | rfl | (simp [*]; done)); (· decide +kernel); (· rfl); (· rfl); (· first | rfl | (simp; done)); (· first | rfl | (simp; done)); (· rfl); rintro sv nx' H' hq hn hd
  obtain ⟨rfl, rfl, rfl⟩ := hq
  clear hd
  have hdj : disj (HP d F cs p q y g a) H := disjP hnp
  have hcn : ∀ i b, lk i (HP d F cs p q y g a ++ H) = some b → lk (q + 3) (HP d F cs p q y g a ++ H) = some (.arr 3 1 g false (ints a)) := fun _ _ _ => if_pos rfl
  have hso := sorted_pc 256 [(nx, 0)] [(nx, .box [.loc 1 (q + 3) g 0 a.length])] _ a (values_it nx (q + 3) g 3 a (by omega)) (nx + 1) (HP d F cs p q y g a ++ H) (fun i b h => hfr i b h) (by omega) h0 (fun pre hp => by
    cases hx : lk (q + 3) pre with
    | none =>
      show lk (q + 3) (pre ++ _) = _
      rw [lk_append_right hx]
      exact if_pos rfl
    | some b => have := hp _ _ hx; omega)
  rw [isort_inc hnd] at hso
  refine pwd_runk fun K' S hK' hS => ?_; simp [*]
  repeat' (first | ((with_reducible refine GoesD.go hS ?_); clear hK' hS; clear K' S))
  refine pwd_callpk (eff := [2, 3, 4]) (i := 3) (c := [0]) (c' := [0]) (o := ?_) (cl := ?_) (x := ?_) (f := 200) (caps := []) (svs := [.clos 256 [(nx, 0)]]) (own := []) (Hs := [(nx, .box [.loc 1 (q + 3) g 0 a.length])] ++ (HP d F cs p q y g a ++ H)) (Qr := _) ?_ ?_ ?_ ?_ ?_ ?_ ?_ ?_ ?_ ?_ (fun i b h => h) (fun i b h => by cases h) (by simpa [capRefs] using hso) ?_; rotate_left 3; (· rfl); (· rfl); (· first | rfl | (simp [*]; done)); (· first | rfl | (simp [*]; done)); (· decide +kernel); (· rfl); (· rfl); (· first | rfl | (simp; done)); (· first | rfl | (simp; done)); (· rfl); rintro sv nx' H' hq hn hd
  obtain ⟨rfl, rfl⟩ := hq
  clear hd hso hfr hcn
  simp only at hn
  refine pwd_runk fun K' S hK' hS => ?_; simp [*]
  repeat' (first | ((with_reducible refine GoesD.go hS ?_); clear hK' hS; clear K' S))
  refine pwd_yieldk (eff := [2, 3, 4]) (i := 4) (c := [0]) (c' := []) (o := ?_) (cl := ?_) (x := ?_) (y := y) (svs := [.pv (.sl 1 (ints (incOf a)))]) (own := HP d F cs p q y g a) (Hs := H) (Qr := _) ?_ ?_ ?_ ?_ ?_ ?_ ?_ ?_ ?_ ?_ rfl (hdj) (hst nx' H (hmono _ _ _ _ hC (by omega))) ?_; rotate_left 3; (· rfl); (· rfl); (· first | rfl | (simp [*]; done)); (· first | rfl | (simp [*]; done)); (· decide +kernel); (· rfl); (· rfl); (· first | rfl | (simp; done)); (· first | rfl | (simp; done)); (· rfl); rintro sv nx' H' hq hn hd
  simp only at hn
  rcases hq with ⟨rfl, hc⟩ | ⟨rfl, hc⟩
  · refine pwd_runk fun K' S hK' hS => ?_; simp [*]
    repeat' (first | ((with_reducible refine Goes.go hK' ?_); clear hK' hS; clear K' S) | with_reducible refine pws_ret ?_)
    refine finP_ret (vs := ?_) [] (.inr rfl) rfl ?_ ?_
    rotate_left
    · simp [Tryz.results199, resL, resOf]; rfl
    · exact .inl ⟨by simp [wrapRes, cv], g, H', rfl, npP hpq hd, by simpa [asgV, asg] using hc⟩
  · refine pwd_runk fun K' S hK' hS => ?_; simp [*]
    repeat' (first | ((with_reducible refine Goes.go hK' ?_); clear hK' hS; clear K' S) | with_reducible refine pws_ret ?_)
    refine finP_end (vs := [sbool false]) (.inr rfl) (ent_keep (st' := { n := 80, nx := nx', s := [(6, sbool false)], h := H', d := [] }) rfl rfl rfl (fun t sv h => SubL.get (by simp [SubL]) h) (disj_sub hd)) rfl ?_ ?_
    · simp [Tryz.results199, resL, resOf, lk]
    · exact .inr ⟨by simp [wrapRes, cv], _, hc⟩
end
section
attribute [local simp] V.c V.z Sd.c Tst.c Fx.c Rl.c Fc.c Gr.c wrap1f take_map_len take_map_len1 wrap1 wrap2 wrap3
def pbody (d : Rl) (F : List Fc) (cs : List Int) (n : Nat) (a : List Int) (c : Int) : List (List Int) :=
  if (d.tables[a.length]?).getD 0 ≠ (fc F c).table ∨ isIn a c = true then [] else if d.tests.all (fun t => holdsD t d.tables.length F (a ++ [c])) then asg d F cs n (a ++ [c]) else []
abbrev prt (d : Rl) (F : List Fc) (cs : List Int) (n : Nat) (a : List Int) (k : Nat) : List SV := ((cs.take k).flatMap (pbody d F cs n a)).map fun s => .pv (.sl 1 (ints s))
theorem prt_succ {d : Rl} {F : List Fc} {cs : List Int} {n : Nat} {a : List Int} {k : Nat} (h : k < cs.length) : prt d F cs n a (k + 1) = prt d F cs n a k ++ (pbody d F cs n a cs[k]).map fun s => .pv (.sl 1 (ints s)) := by
  unfold prt
  rw [List.take_succ_eq_append_getElem h, List.flatMap_append, List.map_append]
  simp
theorem prt_all {d : Rl} {F : List Fc} {cs : List Int} {n : Nat} {a : List Int} : prt d F cs n a cs.length = asgV d F cs (n + 1) a := by
  unfold prt
  rw [List.take_length]
  rfl
theorem prt_split {d : Rl} {F : List Fc} {cs : List Int} {n : Nat} {a : List Int} {k : Nat} (h : k < cs.length) : ∃ Z, asgV d F cs (n + 1) a = prt d F cs n a k ++ (pbody d F cs n a cs[k]).map (fun s => .pv (.sl 1 (ints s))) ++ Z := by
  refine ⟨((cs.drop (k + 1)).flatMap (pbody d F cs n a)).map fun s => .pv (.sl 1 (ints s)), ?_⟩
  rw [← prt_succ h]
  unfold prt
  rw [← List.map_append, ← List.flatMap_append, List.take_append_drop]
  rfl
def PutOK (d : Rl) (F : List Fc) (cs : List Int) (p q y : Nat) (C D : List SV → Nat → List (Nat × ABlk) → Prop) (X : List SV) (n : Nat) : Prop :=
  ∀ (nx g : Nat) (H : List (Nat × ABlk)) (ys : List SV) (a : List Int) (Z : List SV), a.length + n = d.tables.length → Rng F a → a.Nodup → q + 4 ≤ nx → NPH p q H → C ys nx H → X = ys ++ asgV d F cs n a ++ Z →
    PC Tryz.prog 199 (capRefs (caP p q)) nx (HP d F cs p q y g a ++ H) (PutQ d F cs p q y C D (ys ++ asgV d F cs n a) a)
abbrev HR (d : Rl) (F : List Fc) (cs : List Int) (p q y g : Nat) (A : List (List PV)) (m : Nat) : List (Nat × ABlk) :=
  [(q + 3, .arr 3 1 g false A), (q + 2, .box [.clos 199 (caP p q)]), (q + 1, .box [.loc 1 (q + 3) g 0 m]), (q, .box [.yld y]), (p + 2, .box [.pv (.sl 1 (ints cs))]), (p + 1, .box [.pv (.sl 6 (pfacts F))]), (p, .box (d.c.map .pv))]
theorem HP_HR (d : Rl) (F : List Fc) (cs : List Int) (p q y g : Nat) (a : List Int) (c : Int) : HP d F cs p q y g (a ++ [c]) = HR d F cs p q y g (ints a ++ [[pint c]]) (a.length + 1) := by
  have h : ints (a ++ [c]) = ints a ++ [[pint c]] := List.map_append
  simp only [HP, HR, h, List.length_append, List.length_singleton]
theorem put_succ {d : Rl} {F : List Fc} {cs : List Int} {p q y : Nat} {C D : List SV → Nat → List (Nat × ABlk) → Prop} {X : List SV} {n : Nat} (hpq : p + 3 ≤ q) (htb : d.tables.length ≤ 12) (hts : d.tests.length ≤ 100) (hcs : cs.length ≤ 1000000) (hcr : Rng F cs)
    (hmono : ∀ ys nx nx' H, C ys nx H → nx ≤ nx' → C ys nx' H) (ih : PutOK d F cs p q y C D X n) : PutOK d F cs p q y C D X (n + 1) := by
  intro nx g H ys a Z hl ha hnd hq hnp hC hX
  refine PC.dom enters199 fun hdom => ?_
  have ne_q___3_p : ¬ q + 3 = p := by omega
  have ne_q___3_p' : ¬ p = q + 3 := by omega
  have ne_q___3_p___1 : ¬ q + 3 = p + 1 := by omega
  have ne_q___3_p___1' : ¬ p + 1 = q + 3 := by omega
  have ne_q___3_p___2 : ¬ q + 3 = p + 2 := by omega
  have ne_q___3_p___2' : ¬ p + 2 = q + 3 := by omega
  have ne_q___2_p : ¬ q + 2 = p := by omega
  have ne_q___2_p' : ¬ p = q + 2 := by omega
  have ne_q___2_p___1 : ¬ q + 2 = p + 1 := by omega
  have ne_q___2_p___1' : ¬ p + 1 = q + 2 := by omega
  have ne_q___2_p___2 : ¬ q + 2 = p + 2 := by omega
  have ne_q___2_p___2' : ¬ p + 2 = q + 2 := by omega
  have ne_q___1_p : ¬ q + 1 = p := by omega
  have ne_q___1_p' : ¬ p = q + 1 := by omega
  have ne_q___1_p___1 : ¬ q + 1 = p + 1 := by omega
  have ne_q___1_p___1' : ¬ p + 1 = q + 1 := by omega
  have ne_q___1_p___2 : ¬ q + 1 = p + 2 := by omega
  have ne_q___1_p___2' : ¬ p + 2 = q + 1 := by omega
  have ne_q_p : ¬ q = p := by omega
  have ne_q_p' : ¬ p = q := by omega
  have ne_q_p___1 : ¬ q = p + 1 := by omega
  have ne_q_p___1' : ¬ p + 1 = q := by omega
  have ne_q_p___2 : ¬ q = p + 2 := by omega
  have ne_q_p___2' : ¬ p + 2 = q := by omega
  have ne_nx_q___3 : ¬ nx = q + 3 := by omega
  have ne_nx_q___3' : ¬ q + 3 = nx := by omega
  have ne_nx_q___2 : ¬ nx = q + 2 := by omega
  have ne_nx_q___2' : ¬ q + 2 = nx := by omega
  have ne_nx_q___1 : ¬ nx = q + 1 := by omega
  have ne_nx_q___1' : ¬ q + 1 = nx := by omega
  have ne_nx_q : ¬ nx = q := by omega
  have ne_nx_q' : ¬ q = nx := by omega
  have ne_nx_p___2 : ¬ nx = p + 2 := by omega
  have ne_nx_p___2' : ¬ p + 2 = nx := by omega
  have ne_nx_p___1 : ¬ nx = p + 1 := by omega
  have ne_nx_p___1' : ¬ p + 1 = nx := by omega
  have ne_nx_p : ¬ nx = p := by omega
  have ne_nx_p' : ¬ p = nx := by omega
  have hl' : ((a.length : Int) = d.tables.length) = False := eq_false (by omega)
  have hl2 : (a.length = d.tables.length) = False := eq_false (by omega)
  have hal : a.length < d.tables.length := by omega
  refine pc_of_pw' (fn := Tryz.f199) Tryz.func199 rfl enters199 Tryz.ntmps199 (by simp [capRefs]) (pw_of_pws ?_)
  simp only [capRefs, List.map_cons, List.map_nil, argSlots]
  repeat' (first | with_reducible refine pws_seq ?_ | with_reducible refine pws_skip ?_ | with_reducible refine pws_block ?_ | ((with_reducible refine pws_regk fun K' S hK' hS => ?_); simp [argSlots, *]) | ((with_reducible refine Goes.go hK' ?_); clear hK' hS; clear K' S) | ((with_reducible refine pws_false ?_ ?_); (· simp; done)))
  refine pws_loop (α := { v : Nat × Nat × Nat × List (Nat × ABlk) // v.1 ≤ cs.length }) (fun v => { n := 80, nx := v.1.2.1, s := [(25, sint v.1.1), (24, sint cs.length), (23, .pv (.sl 1 (ints cs))), (0, .ref (q + 1) 0), (1, .ref p 0), (2, .ref q 0), (3, .ref (p + 2) 0), (4, .ref (p + 1) 0), (5, .ref (q + 2) 0)], h := HP d F cs p q y v.1.2.2.1 a ++ v.1.2.2.2, d := [] }) (fun v => cs.length - v.1.1)
    (fun v => NPH p q v.1.2.2.2 ∧ nx ≤ v.1.2.1 ∧ C (ys ++ prt d F cs n a v.1.1) v.1.2.1 v.1.2.2.2) ⟨(0, nx, g, H), by simp⟩ ⟨hnp, Nat.le_refl _, by simpa [prt] using hC⟩ (ent_keep rfl rfl rfl (fun t sv h => SubL.get (by simp [SubL, *]) h) (fun i b h => h)) ?_
  clear hnp hC hdom
  clear ne_nx_q___3 ne_nx_q___3' ne_nx_q___2 ne_nx_q___2' ne_nx_q___1 ne_nx_q___1' ne_nx_q ne_nx_q' ne_nx_p___2 ne_nx_p___2' ne_nx_p___1 ne_nx_p___1' ne_nx_p ne_nx_p'
  rintro ⟨⟨k, nx1, g1, H1⟩, hk⟩ ⟨hnp, hnx, hC⟩ K hK
  simp only at hk hnp hnx hC
  refine PWs.dom fun hdomk => ?_
  have hH1 : lk nx1 H1 = none := by
    cases hx : lk nx1 H1 with
    | none => rfl
    | some b =>
      have : nx1 < nx1 := hdomk nx1 b (disj_sub (disjP hnp) nx1 b hx)
      omega
  clear hdomk
  have ne_nx1_q___3 : ¬ nx1 = q + 3 := by omega
  have ne_nx1_q___3' : ¬ q + 3 = nx1 := by omega
  have ne_nx1_q___2 : ¬ nx1 = q + 2 := by omega
  have ne_nx1_q___2' : ¬ q + 2 = nx1 := by omega
  have ne_nx1_q___1 : ¬ nx1 = q + 1 := by omega
  have ne_nx1_q___1' : ¬ q + 1 = nx1 := by omega
  have ne_nx1_q : ¬ nx1 = q := by omega
  have ne_nx1_q' : ¬ q = nx1 := by omega
  have ne_nx1_p___2 : ¬ nx1 = p + 2 := by omega
  have ne_nx1_p___2' : ¬ p + 2 = nx1 := by omega
  have ne_nx1_p___1 : ¬ nx1 = p + 1 := by omega
  have ne_nx1_p___1' : ¬ p + 1 = nx1 := by omega
  have ne_nx1_p : ¬ nx1 = p := by omega
  have ne_nx1_p' : ¬ p = nx1 := by omega
  by_cases h1 : k < cs.length
  · have hw := wrap64_id (n := (k : Int) + 1) (by omega)
    obtain ⟨cq, hcq, hcF⟩ := hcr.at h1
    have hfc : fc F cs[k] = F[cq] := by rw [hcq, fc_nat, nf_get hcF]
    have hpb : pbody d F cs n a cs[k] = if d.tables[a.length] ≠ F[cq].table ∨ isIn a cs[k] = true then [] else if d.tests.all (fun t => holdsD t d.tables.length F (a ++ [cs[k]])) then asg d F cs n (a ++ [cs[k]]) else [] := by
      unfold pbody
      rw [hfc, List.getElem?_eq_getElem hal]
      rfl
    have hps := prt_succ (d := d) (F := F) (n := n) (a := a) h1
    obtain ⟨Z2, hZ2⟩ := prt_split (d := d) (F := F) (n := n) (a := a) h1
    by_cases ht0 : F[cq].table = d.tables[a.length]
    · have ht : (F[cq].table = d.tables[a.length]) = True := eq_true ht0
      have ht' : (d.tables[a.length] = F[cq].table) = True := eq_true ht0.symm
      cases hin : isIn a cs[k] with
      | true =>
        have hpn : prt d F cs n a (k + 1) = prt d F cs n a k := by rw [hps, hpb]; simp [hin]
        have hcc := sContains_ok a cs[k]
        rw [hin, hcq] at hcc
        clear ih hps hZ2 hpb ht0 hfc
        repeat' (first | with_reducible refine pws_seq ?_ | with_reducible refine pws_skip ?_ | with_reducible refine pws_block ?_ | ((with_reducible refine pws_regk fun K' S hK' hS => ?_); simp [argSlots, *]) | ((with_reducible refine Goes.go hK' ?_); clear hK' hS; clear K' S) | ((with_reducible refine pws_true ?_ ?_); (· simp; done)) | with_reducible refine blk_same ?_ | with_reducible refine thenQ_normal ?_ | with_reducible refine pws_nil ?_ | with_reducible refine pws_exit ?_ | ((with_reducible refine pws_drawk [15] [0, 1, 2, 3, 4, 5, 6, 7, 8, 9, 10, 11, 12, 13, 14, 15, 16] [] ?_ fun K' S hK' hS => ?_); (· decide +kernel); simp [argSlots, *]) | ((with_reducible refine GoesD.go hS ?_); clear hK' hS; clear K' S) | ((with_reducible refine pwd_callk (eff := [15]) (i := 15) (c := [14, 13, 12, 11, 10, 9, 8, 7, 6, 5, 4, 3, 2, 1, 0]) (c' := []) (o := ?_) (cl := ?_) (x := ?_) (f := ?_) (svs := ?_) (cs := ?_) (Qr := ?_) true ?_ ?_ ?_ ?_ ?_ ?_ ?_ ?_ ?_ ?_ ?_ ?_ ?_); rotate_left 7; (· rfl); (· rfl); (· (simp [argSlots, *]; done)); (· (simp [argSlots, *]; done)); (· decide +kernel); (· rfl); (· rfl); (· (simp; with_reducible rfl)); (· (simp; with_reducible rfl)); (· first | (simp [bors, bor]; with_reducible rfl) | (simp [bors, bor, *]; with_reducible rfl)); (· rfl); (· ((with_reducible refine hcc))); (rintro sv hsv hsc; clear hsc; obtain rfl := hsv; refine ⟨(by first | (intro _; rfl) | (intro h; cases h)), ?_⟩; refine pwd_runk fun K' S hK' hS => ?_; simp [argSlots, *])))
        refine hK _ ⟨(k + 1, nx1, g1, H1), by simp; omega⟩ (ent_keep rfl rfl rfl (fun t sv h => SubL.get (by simp [SubL, *]) h) (fun i b h => h)) ⟨hnp, hnx, by simp only [hpn]; exact hC⟩ (by simp; omega)
      | false =>
        rw [hcq] at hin hpb hps hZ2
        have hcc := sContains_ok a (cq : Int)
        rw [hin] at hcc
        have hpb2 : pbody d F cs n a (cq : Int) = if d.tests.all (fun t => holdsD t d.tables.length F (a ++ [(cq : Int)])) then asg d F cs n (a ++ [(cq : Int)]) else [] := by rw [hpb]; simp [ht', hin]
        have hb1 : (a.length + 1) * 8 ≤ 140737488355328 := by omega
        have hnd2 : (a ++ [(cq : Int)]).Nodup := by
          rw [List.nodup_append]
          refine ⟨hnd, by simp, fun x hx z hz e => ?_⟩
          simp at hz
          rw [isIn_iff.2 (by rw [← hz, ← e]; exact hx)] at hin
          cases hin
        have ha2 : Rng F (a ++ [(cq : Int)]) := fun x hx => by
          rcases List.mem_append.1 hx with h | h
          · exact ha x h
          · simp at h; subst h; omega
        have hia : ints (a ++ [(cq : Int)]) = ints a ++ [[pint cq]] := List.map_append
        clear hpb ht0 hfc
        repeat' (first | with_reducible refine pws_seq ?_ | with_reducible refine pws_skip ?_ | with_reducible refine pws_block ?_ | ((with_reducible refine pws_regk fun K' S hK' hS => ?_); simp [argSlots, *]) | ((with_reducible refine Goes.go hK' ?_); clear hK' hS; clear K' S) | ((with_reducible refine pws_true ?_ ?_); (· simp; done)) | ((with_reducible refine pws_false ?_ ?_); (· simp; done)) | ((with_reducible refine pws_drawk [15] [0, 1, 2, 3, 4, 5, 6, 7, 8, 9, 10, 11, 12, 13, 14, 15, 16] [] ?_ fun K' S hK' hS => ?_); (· decide +kernel); simp [argSlots, *]) | ((with_reducible refine GoesD.go hS ?_); clear hK' hS; clear K' S) | ((with_reducible refine pwd_callk (eff := [15]) (i := 15) (c := [14, 13, 12, 11, 10, 9, 8, 7, 6, 5, 4, 3, 2, 1, 0]) (c' := []) (o := ?_) (cl := ?_) (x := ?_) (f := ?_) (svs := ?_) (cs := ?_) (Qr := ?_) true ?_ ?_ ?_ ?_ ?_ ?_ ?_ ?_ ?_ ?_ ?_ ?_ ?_); rotate_left 7; (· rfl); (· rfl); (· (simp [argSlots, *]; done)); (· (simp [argSlots, *]; done)); (· decide +kernel); (· rfl); (· rfl); (· (simp; with_reducible rfl)); (· (simp; with_reducible rfl)); (· first | (simp [bors, bor]; with_reducible rfl) | (simp [bors, bor, *]; with_reducible rfl)); (· rfl); (· ((with_reducible refine hcc))); (rintro sv hsv hsc; clear hsc; obtain rfl := hsv; refine ⟨(by first | (intro _; rfl) | (intro h; cases h)), ?_⟩; refine pwd_runk fun K' S hK' hS => ?_; simp [argSlots, *])))
        refine pws_loop (α := { v : Nat × Nat // v.1 ≤ d.tests.length }) (fun v => { n := 80, nx := v.1.2, s := [(53, sint v.1.1), (52, sint d.tests.length), (51, .pv (.sl 12 (d.tests.map Tst.c))), (9, sbool ((d.tests.take v.1.1).all (fun t => holdsD t d.tables.length F (a ++ [(cq : Int)])))), (25, sint k), (24, sint cs.length), (23, .pv (.sl 1 (ints cs))), (0, .ref (q + 1) 0), (1, .ref p 0), (2, .ref q 0), (3, .ref (p + 2) 0), (4, .ref (p + 1) 0), (5, .ref (q + 2) 0)], h := HR d F cs p q y (g1 + 1) (ints a ++ [[pint cq]]) (a.length + 1) ++ H1, d := [] }) (fun v => d.tests.length - v.1.1)
          (fun v => nx1 ≤ v.1.2) ⟨(0, nx1 + 1), by simp⟩ (by simp) (Ent.trans (ent_droph (by simp [lk, *])) (ent_keep rfl rfl rfl (fun t sv h => SubL.get (by simp [SubL, *]) h) (fun i b h => h))) ?_
        rintro ⟨⟨j, nx2⟩, hj⟩ hnx2 K2 hK2
        simp only at hj hnx2
        refine PWs.dom fun hdomk => ?_
        have hH2 : lk nx2 H1 = none := by
          cases hx : lk nx2 H1 with
          | none => rfl
          | some b =>
            have : nx2 < nx2 := hdomk nx2 b (disj_sub (fun i b hl => disjP (d := d) (F := F) (cs := cs) (y := y) (g := g1 + 1) (a := a ++ [(cq : Int)]) hnp i b (by rw [HP_HR]; exact hl)) nx2 b hx)
            omega
        clear hdomk
        have ne_nx2_q___3 : ¬ nx2 = q + 3 := by omega
        have ne_nx2_q___3' : ¬ q + 3 = nx2 := by omega
        have ne_nx2_q___2 : ¬ nx2 = q + 2 := by omega
        have ne_nx2_q___2' : ¬ q + 2 = nx2 := by omega
        have ne_nx2_q___1 : ¬ nx2 = q + 1 := by omega
        have ne_nx2_q___1' : ¬ q + 1 = nx2 := by omega
        have ne_nx2_q : ¬ nx2 = q := by omega
        have ne_nx2_q' : ¬ q = nx2 := by omega
        have ne_nx2_p___2 : ¬ nx2 = p + 2 := by omega
        have ne_nx2_p___2' : ¬ p + 2 = nx2 := by omega
        have ne_nx2_p___1 : ¬ nx2 = p + 1 := by omega
        have ne_nx2_p___1' : ¬ p + 1 = nx2 := by omega
        have ne_nx2_p : ¬ nx2 = p := by omega
        have ne_nx2_p' : ¬ p = nx2 := by omega
        by_cases h2 : j < d.tests.length
        · have hw2 := wrap64_id (n := (j : Int) + 1) (by omega)
          have hta : (d.tests.take (j + 1)).all (fun t => holdsD t d.tables.length F (a ++ [(cq : Int)])) = ((d.tests.take j).all (fun t => holdsD t d.tables.length F (a ++ [(cq : Int)])) && holdsD d.tests[j] d.tables.length F (a ++ [(cq : Int)])) := by
            rw [List.take_succ_eq_append_getElem h2, List.all_append]
            simp
          have hho := dHolds_ok d.tests[j] d.tables.length F (a ++ [(cq : Int)]) ha2
          rw [hia] at hho
          clear ih hK hZ2 hps hpb2
          generalize (d.tests.take j).all (fun t => holdsD t d.tables.length F (a ++ [(cq : Int)])) = bq at *
          cases bq
          all_goals
            repeat' (first | with_reducible refine pws_seq ?_ | with_reducible refine pws_skip ?_ | with_reducible refine pws_block ?_ | ((with_reducible refine pws_regk fun K' S hK' hS => ?_); simp [argSlots, *]) | ((with_reducible refine Goes.go hK' ?_); clear hK' hS; clear K' S) | ((with_reducible refine GoesS.go hS ?_); clear hK' hS; clear K' S) | ((with_reducible refine pws_true ?_ ?_); (· simp; done)) | with_reducible refine blk_normal ?_ | with_reducible refine thenQ_normal ?_ | with_reducible refine pws_nil ?_ | ((with_reducible refine pwl_callk (c := ?_) (x := ?_) (f := ?_) (svs := ?_) (cs := ?_) (Qr := ?_) true ?_ ?_ ?_ ?_ ?_ ?_ ?_ ?_ ?_); rotate_left 6; (· (simp [argSlots, *]; done)); (· rfl); (· rfl); (· (simp; with_reducible rfl)); (· (simp; with_reducible rfl)); (· first | (simp [bors, bor]; with_reducible rfl) | (simp [bors, bor, *]; with_reducible rfl)); (· rfl); (· ((with_reducible refine hho))); (rintro sv hsv hsc; clear hsc; obtain rfl := hsv; refine ⟨(by first | (intro _; rfl) | (intro h; cases h)), ?_⟩; refine pwl_runk fun K' S hK' hS => ?_; simp [argSlots, *])))
            refine hK2 _ ⟨(j + 1, nx2 + 1), by simp; omega⟩ (Ent.trans (ent_droph (by simp [lk, *])) (by simp only [hta, Bool.true_and, Bool.false_and]; exact (ent_keep rfl rfl rfl (fun t sv h => SubL.get (by simp [SubL, *]) h) (fun i b h => h)))) (by simp; omega) (by simp; omega)
        · obtain rfl : j = d.tests.length := by omega
          have hwa := wrap64_id (n := (a.length : Int)) (by omega)
          have htk : (ints a ++ [[pint cq]]).take a.length = ints a := by rw [List.take_append_of_le_length (by simp [ints])]; exact List.take_of_length_le (by simp [ints])
          rw [List.take_length]
          cases hall : d.tests.all (fun t => holdsD t d.tables.length F (a ++ [(cq : Int)])) with
          | false =>
            have hpn : prt d F cs n a (k + 1) = prt d F cs n a k := by rw [hps, hpb2, hall]; simp
            clear ih hps hZ2 hpb2 hK2 hall
            repeat' (first | with_reducible refine pws_seq ?_ | with_reducible refine pws_skip ?_ | ((with_reducible refine pws_regk fun K' S hK' hS => ?_); simp [argSlots, *]) | ((with_reducible refine Goes.go hK' ?_); clear hK' hS; clear K' S) | ((with_reducible refine pws_false ?_ ?_); (· simp; done)) | with_reducible refine blk_normal ?_ | with_reducible refine blk_same ?_ | with_reducible refine thenQ_exit ?_ | with_reducible refine thenQ_normal ?_ | with_reducible refine pws_nil ?_ | with_reducible refine pws_exit ?_)
            refine hK _ ⟨(k + 1, nx2, g1 + 1, H1), by simp; omega⟩ (Ent.trans (ent_shrink (i := q + 3) a.length (if_pos rfl)) (ent_keep rfl rfl rfl (fun t sv h => SubL.get (by simp [SubL, *]) h) (fun i b h => by simpa [St.upd, hset, htk] using h))) ⟨hnp, by simp; omega, by simp only [hpn]; exact hmono _ _ _ _ hC hnx2⟩ (by simp; omega)
          | true =>
            have hihh := ih nx2 (g1 + 1) H1 (ys ++ prt d F cs n a k) (a ++ [(cq : Int)]) (Z2 ++ Z) (by simp; omega) ha2 hnd2 (by omega) hnp (hmono _ _ _ _ hC hnx2) (by rw [hX, hZ2, hpb2, hall]; simp [asgV])
            have hpn : ys ++ prt d F cs n a k ++ asgV d F cs n (a ++ [(cq : Int)]) = ys ++ prt d F cs n a (k + 1) := by rw [hps, hpb2, hall]; simp [asgV]
            rw [HP_HR, hpn] at hihh
            clear ih hps hZ2 hpb2 hK2 hall hX
            repeat' (first | with_reducible refine pws_seq ?_ | ((with_reducible refine pws_regk fun K' S hK' hS => ?_); simp [argSlots, *]) | ((with_reducible refine Goes.go hK' ?_); clear hK' hS; clear K' S) | ((with_reducible refine GoesS.go hS ?_); clear hK' hS; clear K' S) | ((with_reducible refine pws_false ?_ ?_); (· simp; done)) | with_reducible refine blk_same ?_ | with_reducible refine thenQ_exit ?_ | with_reducible refine pws_exit ?_)
            refine pwl_callpk (c := ?_) (x := ?_) (f := 199) (caps := caP p q) (svs := []) (own := []) (Hs := HR d F cs p q y (g1 + 1) (ints a ++ [[pint cq]]) (a.length + 1) ++ H1) (Qr := _) ?_ ?_ ?_ ?_ ?_ ?_ (fun i b h => by simp only [List.cons_append, List.nil_append, lk] at h ⊢; (repeat' split at h) <;> (try subst_vars) <;> first | (simp_all; done) | (simp_all; omega) | (exfalso; omega)) (fun i b h => by simp only [List.cons_append, List.nil_append, lk] at h ⊢; (repeat' split at h) <;> (try subst_vars) <;> first | (subst_vars; simp [*]; done) | (simp_all; done) | (simp_all; omega)) (hihh) ?_; rotate_left 2; (· first | rfl | (simp [*]; done)); (· rfl); (· rfl); (· first | rfl | (simp; done)); (· first | rfl | (simp; done)); (· rfl); rintro sv nx' H' hq hn hd
            simp only at hn
            rcases hq with ⟨rfl, g', H3, rfl, hnp', hC'⟩ | ⟨rfl, ys', hD⟩
            · rw [HP_HR]
              refine pwl_runk fun K' S hK' hS => ?_; simp [*]
              repeat' (first | with_reducible refine pws_skip ?_ | ((with_reducible refine pws_regk fun K' S hK' hS => ?_); simp [argSlots, *]) | ((with_reducible refine Goes.go hK' ?_); clear hK' hS; clear K' S) | ((with_reducible refine pws_false ?_ ?_); (· simp; done)) | with_reducible refine blk_normal ?_ | with_reducible refine thenQ_normal ?_ | with_reducible refine pws_nil ?_)
              refine hK _ ⟨(k + 1, nx', g', H3), by simp; omega⟩ (Ent.trans (ent_shrink (i := q + 3) a.length (if_pos rfl)) (ent_keep rfl rfl rfl (fun t sv h => SubL.get (by simp [SubL, *]) h) (fun i b h => by simpa [St.upd, hset, htk] using h))) ⟨hnp', by simp; omega, hC'⟩ (by simp; omega)
            · refine pwl_runk fun K' S hK' hS => ?_; simp [*]
              repeat' (first | with_reducible refine pws_seq ?_ | ((with_reducible refine pws_regk fun K' S hK' hS => ?_); simp [argSlots, *]) | ((with_reducible refine Goes.go hK' ?_); clear hK' hS; clear K' S) | ((with_reducible refine pws_true ?_ ?_); (· simp; done)) | with_reducible refine pws_ret ?_ | with_reducible refine blk_ret ?_ | with_reducible refine thenQ_ret ?_)
              refine finP_end (vs := [sbool false]) (.inr rfl) (ent_keep (st' := { n := 80, nx := nx', s := [(6, sbool false)], h := H', d := [] }) rfl rfl rfl (fun t sv h => SubL.get (by simp [SubL]) h) (fun i b h => h)) rfl ?_ ?_
              · simp [Tryz.results199, resL, resOf, lk]
              · exact .inr ⟨by simp [wrapRes, cv], _, hD⟩
    · have ht : ¬ d.tables[a.length] = F[cq].table := fun h => ht0 h.symm
      have hpn : prt d F cs n a (k + 1) = prt d F cs n a k := by rw [hps, hpb]; simp [ht]
      clear ih hps hZ2 hpb hfc
      repeat' (first | with_reducible refine pws_seq ?_ | with_reducible refine pws_skip ?_ | with_reducible refine pws_block ?_ | ((with_reducible refine pws_regk fun K' S hK' hS => ?_); simp [argSlots, *]) | ((with_reducible refine Goes.go hK' ?_); clear hK' hS; clear K' S) | ((with_reducible refine pws_true ?_ ?_); (· simp; done)) | with_reducible refine blk_same ?_ | with_reducible refine thenQ_normal ?_ | with_reducible refine pws_nil ?_ | with_reducible refine pws_exit ?_ | ((with_reducible refine pws_drawk [15] [0, 1, 2, 3, 4, 5, 6, 7, 8, 9, 10, 11, 12, 13, 14, 15, 16] [] ?_ fun K' S hK' hS => ?_); (· decide +kernel); simp [argSlots, *]) | ((with_reducible refine GoesD.go hS ?_); clear hK' hS; clear K' S) | ((with_reducible refine pwd_off (eff := [15]) (i := 15) (c := [14, 13, 12, 11, 10, 9, 8, 7, 6, 5, 4, 3, 2, 1, 0]) (c' := []) (o := ?_) ?_ ?_ ?_ ?_ ?_ ?_ ?_); rotate_left 1; (· rfl); (· rfl); (· (simp [argSlots, *]; done)); (· (simp [argSlots, *]; done)); (· rfl); (· decide +kernel); refine pwd_runk fun K' S hK' hS => ?_; simp [argSlots, *]))
      refine hK _ ⟨(k + 1, nx1, g1, H1), by simp; omega⟩ (ent_keep rfl rfl rfl (fun t sv h => SubL.get (by simp [SubL, *]) h) (fun i b h => h)) ⟨hnp, hnx, by simp only [hpn]; exact hC⟩ (by simp; omega)
  · obtain rfl : k = cs.length := by omega
    rw [prt_all] at hC
    clear hK ih
    repeat' (first | with_reducible refine pws_seq ?_ | ((with_reducible refine pws_regk fun K' S hK' hS => ?_); simp [argSlots, *]) | ((with_reducible refine Goes.go hK' ?_); clear hK' hS; clear K' S) | ((with_reducible refine pws_false ?_ ?_); (· simp; done)) | with_reducible refine pws_ret ?_ | with_reducible refine blk_same ?_ | with_reducible refine thenQ_exit ?_ | with_reducible refine pws_exit ?_)
    refine finP_ret (vs := ?_) [] (.inr rfl) rfl ?_ ?_
    rotate_left
    · simp [Tryz.results199, resL, resOf]; rfl
    · exact .inl ⟨by simp [wrapRes, cv], g1, H1, rfl, hnp, hC⟩
theorem put_ok {d : Rl} {F : List Fc} {cs : List Int} {p q y : Nat} {C D : List SV → Nat → List (Nat × ABlk) → Prop} {X : List SV} (hpq : p + 3 ≤ q) (htb : d.tables.length ≤ 12) (ht0 : 0 < d.tables.length) (hts : d.tests.length ≤ 100) (hcs : cs.length ≤ 1000000) (hcr : Rng F cs)
    (hmono : ∀ ys nx nx' H, C ys nx H → nx ≤ nx' → C ys nx' H) (hst : ∀ ys x zs, X = ys ++ x :: zs → ∀ nx H, C ys nx H → YC Tryz.prog y [x] nx H (ItQ C D ys x)) : ∀ n, PutOK d F cs p q y C D X n
  | 0 => fun nx g H ys a Z hl ha hnd hq hnp hC hX => put_zero hpq hq hnp hmono (by omega) (by omega) (by omega) hnd (hst ys _ Z (by rw [hX]; simp [asgV, asg])) hC
  | n + 1 => put_succ hpq htb hts hcs hcr hmono (put_ok hpq htb ht0 hts hcs hcr hmono hst n)
end
section
attribute [local simp] V.c V.z Sd.c Tst.c Fx.c Rl.c Fc.c Gr.c wrap1f take_map_len take_map_len1 wrap1 wrap2 wrap3
abbrev caA (p : Nat) : List (Nat × Nat) := [(p, 0), (p + 2, 0), (p + 1, 0)]
abbrev HAs (d : Rl) (F : List Fc) (cs : List Int) (p : Nat) : List (Nat × ABlk) := [(p + 2, .box [.pv (.sl 1 (ints cs))]), (p + 1, .box [.pv (.sl 6 (pfacts F))]), (p, .box (d.c.map .pv))]
theorem asg_it {d : Rl} {F : List Fc} {cs : List Int} (p : Nat) (htb : d.tables.length ≤ 12) (ht0 : 0 < d.tables.length) (hts : d.tests.length ≤ 100) (hcs : cs.length ≤ 1000000) (hcr : Rng F cs) :
    ItC Tryz.prog 198 (caA p) (HAs d F cs p) (fun _ => True) (asgV d F cs d.tables.length []) := by
  intro y nx H C D _ hstep hmono hdis h0
  refine PC.dom enters198 fun hdom => ?_
  have hp1 : p + 2 < nx := hdom _ (.box [.pv (.sl 1 (ints cs))]) (lk_append_left (by simp [HAs, lk]))
  have hpn : ∀ i, nx ≤ i → lk i H = none := fun i hi => by
    cases hx : lk i H with
    | none => rfl
    | some b => have := hdom i b (by rw [lk_append_right]; exact hx; (simp only [HAs, lk]; rw [if_neg (by omega), if_neg (by omega), if_neg (by omega)])); omega
  have hnp : NPH p nx H := ⟨hpn _ (by omega), hpn _ (by omega), hpn _ (by omega), hpn _ (by omega), hdis _ (.box [.pv (.sl 1 (ints cs))]) (by simp [HAs, lk]), hdis _ (.box [.pv (.sl 6 (pfacts F))]) (by simp [HAs, lk]), hdis _ (.box (d.c.map .pv)) (by simp [HAs, lk])⟩
  clear hdom hpn
  have ne_nx___3_p : ¬ nx + 3 = p := by omega
  have ne_nx___3_p' : ¬ p = nx + 3 := by omega
  have ne_nx___3_p___1 : ¬ nx + 3 = p + 1 := by omega
  have ne_nx___3_p___1' : ¬ p + 1 = nx + 3 := by omega
  have ne_nx___3_p___2 : ¬ nx + 3 = p + 2 := by omega
  have ne_nx___3_p___2' : ¬ p + 2 = nx + 3 := by omega
  have ne_nx___2_p : ¬ nx + 2 = p := by omega
  have ne_nx___2_p' : ¬ p = nx + 2 := by omega
  have ne_nx___2_p___1 : ¬ nx + 2 = p + 1 := by omega
  have ne_nx___2_p___1' : ¬ p + 1 = nx + 2 := by omega
  have ne_nx___2_p___2 : ¬ nx + 2 = p + 2 := by omega
  have ne_nx___2_p___2' : ¬ p + 2 = nx + 2 := by omega
  have ne_nx___1_p : ¬ nx + 1 = p := by omega
  have ne_nx___1_p' : ¬ p = nx + 1 := by omega
  have ne_nx___1_p___1 : ¬ nx + 1 = p + 1 := by omega
  have ne_nx___1_p___1' : ¬ p + 1 = nx + 1 := by omega
  have ne_nx___1_p___2 : ¬ nx + 1 = p + 2 := by omega
  have ne_nx___1_p___2' : ¬ p + 2 = nx + 1 := by omega
  have ne_nx_p : ¬ nx = p := by omega
  have ne_nx_p' : ¬ p = nx := by omega
  have ne_nx_p___1 : ¬ nx = p + 1 := by omega
  have ne_nx_p___1' : ¬ p + 1 = nx := by omega
  have ne_nx_p___2 : ¬ nx = p + 2 := by omega
  have ne_nx_p___2' : ¬ p + 2 = nx := by omega
  have hpu := put_ok (y := y) (C := C) (D := D) (X := asgV d F cs d.tables.length []) (p := p) (q := nx) (by omega) htb ht0 hts hcs hcr hmono hstep d.tables.length (nx + 4) 0 H [] [] [] (by simp) (fun x hx => by cases hx) (by simp) (by omega) hnp (hmono _ _ _ _ h0 (by omega)) (by simp)
  clear hstep hmono hdis h0
  refine pc_of_pw' (fn := Tryz.f198) Tryz.func198 rfl enters198 Tryz.ntmps198 (by simp [capRefs]) (pw_of_pws ?_)
  simp only [capRefs, List.map_cons, List.map_nil, argSlots]
  repeat' (first | with_reducible refine pws_seq ?_ | ((with_reducible refine pws_regk fun K' S hK' hS => ?_); simp [argSlots, *]) | ((with_reducible refine Goes.go hK' ?_); clear hK' hS; clear K' S) | ((with_reducible refine GoesS.go hS ?_); clear hK' hS; clear K' S))
  refine PWl.ent (ent_adopt (b := nx + 1) (j := 0) (t := 3) (es := 1) (cs := [.pv (.lit (.slice none 0 0))]) (by simp [lk]) rfl (by decide)) ?_
  simp only [hset, if_neg (show ¬ nx + 1 + 1 = nx + 1 by omega), ↓reduceIte, List.set]
  refine pwl_callpk (c := ?_) (x := ?_) (f := 199) (caps := caP p nx) (svs := []) (own := []) (Hs := HP d F cs p nx y 0 [] ++ H) (Qr := _) ?_ ?_ ?_ ?_ ?_ ?_ (fun i b h => h) (fun i b h => by simp only [List.cons_append, List.nil_append, lk] at h ⊢; (repeat' split at h) <;> (try subst_vars) <;> first | (subst_vars; simp [*]; done) | (simp_all; done) | (simp_all; omega)) (hpu) ?_; rotate_left 2; (· first | rfl | (simp [*]; done)); (· rfl); (· rfl); (· first | rfl | (simp; done)); (· first | rfl | (simp; done)); (· rfl); rintro sv nx' H' hq hn hd
  simp only at hn
  refine pwl_runk fun K' S hK' hS => ?_; simp [*]
  repeat' (first | ((with_reducible refine Goes.go hK' ?_); clear hK' hS; clear K' S) | with_reducible refine pws_nil ?_)
  rcases hq with ⟨_, g', H3, rfl, hnp', hC'⟩ | ⟨_, ys', hD⟩
  · refine finP_end (vs := []) (.inl rfl) (ent_keep (st' := { n := 10, nx := nx', s := [], h := H3, d := [] }) rfl rfl rfl (fun t sv h => by cases h) (disj_sub (disjP hnp'))) rfl rfl ?_
    exact .inl hC'
  · refine finP_end (vs := []) (.inl rfl) (ent_keep (st' := { n := 10, nx := nx', s := [], h := H', d := [] }) rfl rfl rfl (fun t sv h => by cases h) (fun i b h => h)) rfl rfl ?_
    exact .inr ⟨_, hD⟩
theorem asgs_ok (d : Rl) (F : List Fc) (cs : List Int) (nx : Nat) (H : List (Nat × ABlk)) : PC Tryz.prog 146 [.agg d.c, .pv (.sl 6 (pfacts F)), .pv (.sl 1 (ints cs))] nx H (fun sv nx' H' => sv = .clos 198 (caA nx) ∧ nx' = nx + 3 ∧ H' = HAs d F cs nx ++ H) := by
  refine pc_of_pw' (fn := Tryz.f146) Tryz.func146 rfl enters146 Tryz.ntmps146 (by simp [capRefs]) (pw_of_pws ?_)
  repeat' (first | with_reducible refine pws_seq ?_ | ((with_reducible refine pws_regk fun K' S hK' hS => ?_); simp [argSlots, capRefs, *]) | ((with_reducible refine Goes.go hK' ?_); clear hK' hS; clear K' S) | with_reducible refine pws_ret ?_)
  all_goals (refine finP_ret (vs := ?_) [] (by first | exact .inr rfl | exact .inl rfl) rfl ?_ ?_; rotate_left; (· simp [Tryz.results146, resL, resOf, *]; rfl); (· first | (simp [wrapRes, cv, *]; done) | (simp [wrapRes, cv, *]; grind) | (simp [wrapRes, cv, *]; omega)))
end
end Go.Proofs.T1
namespace Go.Vc
open Go.RowKit
variable {P : Program} {n0 : Nat} {r : Option Nat}
theorem ent_cv {st : St} {v : Nat} {sv : SV} (hl : lk v st.s = some sv) : Ent n0 st { st with s := (v, cv st.h sv) :: st.s } := fun I φ a w hR hn => by
  refine ⟨I, φ, ⟨hR.rh, hR.size, fun t s ht => ?_, hR.dlen, hR.dmark⟩, hn, Ev.refl⟩
  simp only [lk] at ht
  split at ht
  · rename_i e
    subst e
    injection ht with ht
    subst ht
    exact cv_ok hR.rh (hR.slot _ _ hl)
  · exact hR.slot t s ht
theorem lk_app {β : Type} {i : Nat} {l m : List (Nat × β)} : lk i (l ++ m) = (lk i l).or (lk i m) := lk_append
theorem hset_app {β : Type} {i : Nat} {b c : β} : ∀ {l m : List (Nat × β)}, lk i l = some c → hset i b (l ++ m) = hset i b l ++ m
  | [], m, h => by simp [lk] at h
  | (k, d) :: l, m, h => by
    simp only [lk] at h
    simp only [List.cons_append, hset]
    split at h
    · rename_i e; simp [e]
    · rename_i e; rw [if_neg e, if_neg e, hset_app h]; rfl
theorem lk_hset_some {i j : Nat} {b c : ABlk} : ∀ {l : List (Nat × ABlk)}, lk j (hset i b l) = some c → ∃ d, lk j l = some d
  | [], h => by simp [hset, lk] at h
  | (k, d) :: l, h => by
    simp only [hset] at h
    split at h
    · rename_i e
      simp only [lk] at h ⊢
      split at h
      · rename_i e2; exact ⟨d, if_pos e2⟩
      · rename_i e2; exact ⟨c, by rw [if_neg e2]; exact h⟩
    · simp only [lk] at h ⊢
      split at h
      · rename_i e2; exact ⟨d, if_pos e2⟩
      · rename_i e2; rw [if_neg e2]; exact lk_hset_some h
theorem disj_hset {i : Nat} {b : ABlk} {l H : List (Nat × ABlk)} (h : disj l H) : disj (hset i b l) H := fun j c hl => by
  obtain ⟨d, hd⟩ := lk_hset_some hl
  exact h j d hd
theorem disj_cons {i : Nat} {b : ABlk} {l H : List (Nat × ABlk)} (h1 : lk i H = none) (h : disj l H) : disj ((i, b) :: l) H := fun j c hl => by
  simp only [lk] at hl
  split at hl
  · rename_i e; subst e; exact h1
  · exact h j c hl
theorem lk_skip {i k : Nat} {b c : ABlk} {l : List (Nat × ABlk)} (h : lk k l = none) (hl : lk i l = some b) : lk i ((k, c) :: l) = some b := by
  simp only [lk]
  split
  · rename_i e; subst e; rw [h] at hl; cases hl
  · exact hl
theorem hset_app' {β : Type} {i : Nat} {b : β} {l m : List (Nat × β)} (h : (lk i l).isSome = true) : hset i b (l ++ m) = hset i b l ++ m := by
  obtain ⟨c, hc⟩ := Option.isSome_iff_exists.1 h
  exact hset_app hc
/-- An own array becomes data. -/
theorem ent_froz {n nx i v t es g : Nat} {s s' : List (Nat × SV)} {xs : List (List PV)} {H : List (Nat × ABlk)} {d : List Nat} (hv : lk v s = some (.loc es i g 0 xs.length)) (hs : SubL s' s) (hH : lk i H = none) :
    Ent n0 { n := n, nx := nx, s := s, h := (i, .arr t es g false xs) :: H, d := d } { n := n, nx := nx, s := (v, .pv (.sl es xs)) :: s', h := H, d := d } := by
  have e : St.frz { n := n, nx := nx, s := s, h := (i, .arr t es g false xs) :: H, d := d } i = { n := n, nx := nx, s := s, h := (i, .arr t es g true xs) :: H, d := d } := by simp [St.frz, lk, St.upd, hset]
  have h1 := ent_frz (n0 := n0) { n := n, nx := nx, s := s, h := (i, .arr t es g false xs) :: H, d := d } i
  rw [e] at h1
  refine h1.trans ((ent_cv (v := v) hv).trans (ent_keep rfl rfl rfl (fun u sv h => ?_) (fun j b h => lk_skip hH h)))
  have hc : cv ((i, .arr t es g true xs) :: H) (.loc es i g 0 xs.length) = .pv (.sl es xs) := by simp [cv, toPV, lk]
  simp only [lk] at h ⊢
  rw [hc]
  split at h
  · rename_i e; rw [if_pos e]; exact h
  · rename_i e; rw [if_neg e]; exact hs.get h
/-- Finding in a map that grew. -/
theorem mfind_snoc {d : TypeDesc} {k kl : Value} {kv v : SV} {c : Nat} (hkl : litOf kv = some kl) (hkk : isKeyB d kl = true) : ∀ {es : List (Nat × SV × SV)} {i : Nat}, mfind d k es i = some none → mfind d k (es ++ [(c, kv, v)]) i = some (if keq k kl then some (i + es.length, v) else none)
  | [], i, _ => by simp [mfind, hkl, hkk]; split <;> simp_all
  | q :: es, i, h => by
    simp only [mfind] at h
    simp only [List.cons_append, mfind]
    split at h
    · rename_i w hw
      split at h
      · rename_i hk2
        split at h
        · cases h
        · rename_i hq
          rw [if_pos hk2, if_neg hq, mfind_snoc hkl hkk h]
          simp; split <;> simp_all; omega
      · cases h
    · cases h
theorem mfind_snoc' {d : TypeDesc} {k : Value} {x : Nat × SV} {q : Nat × SV × SV} : ∀ {es : List (Nat × SV × SV)} {i : Nat}, mfind d k es i = some (some x) → mfind d k (es ++ [q]) i = some (some x)
  | [], i, h => by simp [mfind] at h
  | q' :: es, i, h => by
    simp only [mfind] at h
    simp only [List.cons_append, mfind]
    split at h
    · rename_i w hw
      split at h
      · rename_i hk2
        rw [if_pos hk2]
        split at h
        · rename_i hq; rw [if_pos hq]; exact h
        · rename_i hq; rw [if_neg hq]; exact mfind_snoc' h
      · cases h
    · cases h
/-- What is found lies there. -/
theorem mfind_get {d : TypeDesc} {k : Value} {j : Nat} {v : SV} : ∀ {es : List (Nat × SV × SV)} {i : Nat}, mfind d k es i = some (some (j, v)) → ∃ m q w, j = i + m ∧ es[m]? = some q ∧ q.2.2 = v ∧ litOf q.2.1 = some w ∧ isKeyB d w = true ∧ keq k w = true
  | [], i, h => by simp [mfind] at h
  | q :: es, i, h => by
    simp only [mfind] at h
    split at h
    · rename_i w hw
      split at h
      · rename_i hk2
        split at h
        · rename_i hq
          simp only [Option.some.injEq, Prod.mk.injEq] at h
          exact ⟨0, q, w, by omega, rfl, h.2, hw, hk2, hq⟩
        · obtain ⟨m, q', w', e1, e2, e3, e4, e5, e6⟩ := mfind_get h
          exact ⟨m + 1, q', w', by omega, e2, e3, e4, e5, e6⟩
      · cases h
    · cases h
/-- Finding in a map in which an entry was laid anew. -/
theorem mfind_set {d : TypeDesc} {k kl : Value} {kv v : SV} {c : Nat} (hkl : litOf kv = some kl) (hkk : isKeyB d kl = true) : ∀ {es : List (Nat × SV × SV)} {i m : Nat} {q : Nat × SV × SV}, es[m]? = some q → litOf q.2.1 = some kl → ∀ {a}, mfind d k es i = some a →
    (keq k kl = false → mfind d k (es.set m (c, kv, v)) i = some a) ∧ ∀ u, keq k kl = true → a = some (i + m, u) → mfind d k (es.set m (c, kv, v)) i = some (some (i + m, v))
  | [], i, m, q, h, _, a, _ => by simp at h
  | q' :: es, i, 0, q, h, hq, a, ha => by
    simp only [List.getElem?_cons_zero, Option.some.injEq] at h
    subst h
    simp only [mfind, hq, if_pos hkk] at ha
    simp only [List.set_cons_zero, mfind, hkl, if_pos hkk]
    refine ⟨fun hk => ?_, fun u hk he => ?_⟩
    · simp [hk] at ha ⊢; exact ha
    · simp [hk]
  | q' :: es, i, m + 1, q, h, hq, a, ha => by
    simp only [List.getElem?_cons_succ] at h
    simp only [mfind] at ha
    simp only [List.set_cons_succ, mfind]
    split at ha
    · rename_i w hw
      split at ha
      · rename_i hk2
        rw [if_pos hk2]
        split at ha
        · rename_i hkw
          simp only [if_pos hkw]
          refine ⟨fun _ => ha, fun u hk he => ?_⟩
          subst he
          simp at ha
        · rename_i hkw
          simp only [if_neg hkw]
          obtain ⟨g1, g2⟩ := mfind_set (c := c) hkl hkk h hq ha
          refine ⟨g1, fun u hk he => ?_⟩
          have := g2 u hk (by rw [he, Nat.add_right_comm, Nat.add_assoc])
          rw [this, Nat.add_right_comm, Nat.add_assoc]
      · cases ha
    · cases ha
end Go.Vc
namespace Go.Proofs.T1
open Go.Vc
open Tryz
set_option linter.unusedSimpArgs false
set_option linter.unusedVariables false
set_option maxHeartbeats 4000000
set_option maxRecDepth 20000
attribute [local simp] runD_nil runD_cons runDO runDG runDV stabs stabO stabG runK_nil runK_cons runG_t runG_f runS_some runS_none gate dstOf step2 step1 vq vop vlook mput mfind isKeyB keq fin1 hbox halloc hstore hbuild hbuildSlice happend hmake vslice bound vbuild partsOf elemsOf inOrder topvs toPV svCells splice srcOf isNil St.ev St.evs St.fits St.put St.new St.upd St.frzs St.frz lk hset litOf vbuiltin vlen vbin vindex vfield vload rdc pvs capsOf Value.oneCell'
attribute [local simp] tsz3 tagg3 tbytes3 tint3 tzero3 tzero1_3 tsz4 tagg4 tbytes4 tbool4 tzero4 tzero1_4 tsz5 tagg5 tbytes5 tint5 tzero5 tzero1_5 tsz9 tagg9 tbytes9 tstr9 tzero9 tzero1_9 tsz22 tagg22 tel22 tbytes22 tzero22 tzero1_22 tsz23 tagg23 tel23 tbytes23 tzero23 tzero1_23 tsz24 tagg24 tel24 tbytes24 tzero24 tzero1_24 tsz25 tagg25 tbytes25 tzero25 tzero1_25 tsz29 tagg29 tel29 tbytes29 tzero29 tzero1_29 tsz30 tagg30 tel30 tbytes30 tzero30 tzero1_30 tsz32 tagg32 tbytes32 tzero32 foff32_0 foff32_1 foff32_2 foff32_3 foff32_4 foff32_5 foff32_6 foff32_7 foff32_8 foff32_9 tsz33 tagg33 tel33 tbytes33 tzero33 tzero1_33 tsz34 tagg34 tbytes34 tint34 tzero34 tzero1_34 tsz38 tagg38 tbytes38 tzero38 foff38_0 foff38_1 foff38_2 tsz47 tagg47 tel47 tbytes47 tzero47 tzero1_47 tsz52 tagg52 tel52 tbytes52 tzero52 tzero1_52 tsz54 tagg54 tbytes54 tzero54 foff54_0 foff54_1 foff54_2 foff54_3 foff54_4 foff54_5 tsz79 tagg79 tbytes79 tzero79 foff79_0 foff79_1 foff79_2 tsz117 tagg117 tbytes117 tzero117 foff117_0 foff117_1 foff117_2 tsz119 tagg119 tbytes119 tzero119 foff119_0 foff119_1 tsz121 tagg121 tbytes121 tzero121 foff121_0 foff121_1 foff121_2 foff121_3 tsz129 tagg129 tbytes129 tzero129 tzero1_129 tsz130 tagg130 tbytes130 tzero130 tzero1_130 tsz132 tagg132 tbytes132 tzero132 tzero1_132 tsz206 tagg206 tbytes206 tzero206 tzero1_206 mtype206 tsz208 tagg208 tbytes208 tsz217 tagg217 tel217 tbytes217 tzero217 tzero1_217 tsz220 tagg220 tbytes220 tzero220 foff220_0 foff220_1 tsz235 tagg235 tel235 tbytes235 tzero235 tzero1_235 tsz256 tagg256 tbytes256 tzero256 tzero1_256 mtype256 tsz351 tagg351 tbytes351 tzero351 tsz2 tagg2 tbytes2 tint2 tzero2 tzero1_2 tsz291 tagg291 tbytes291 tint291 tzero291 tzero1_291 sized32 places32_0 places32_1 places32_2 places32_3 places32_4 places32_5 places32_6 places32_7 places32_8 places32_9 sized38 places38_0 places38_1 places38_2 sized54 places54_0 places54_1 places54_2 places54_3 places54_4 places54_5 sized79 places79_0 places79_1 places79_2 sized117 places117_0 places117_1 places117_2 sized119 places119_0 places119_1 sized121 places121_0 places121_1 places121_2 places121_3 sized220 places220_0 places220_1
section
attribute [local simp] V.c V.z Sd.c Tst.c Fx.c Rl.c Fc.c Gr.c wrap1f take_map_len take_map_len1 wrap1 wrap2 wrap3
def sel (F : List Fc) (l : List Int) (e : Int) : List Int := l.filter fun b => decide ((fc F b).entity = e)
def GX (F : List Fc) (seen : List Int) (es : List (Nat × SV × SV)) (Hm : List (Nat × ABlk)) : Prop :=
  ∀ e : Int, (sel F seen e = [] ∧ mfind (.int .i64) (.int .i64 e) es 0 = some none) ∨ (sel F seen e ≠ [] ∧ ∃ j id g, mfind (.int .i64) (.int .i64 e) es 0 = some (some (j, .loc 1 id g 0 (sel F seen e).length)) ∧ lk id Hm = some (.arr 3 1 g false (ints (sel F seen e))))
theorem sel_snoc {F : List Fc} {l : List Int} {c e : Int} : sel F (l ++ [c]) e = if (fc F c).entity = e then sel F l e ++ [c] else sel F l e := by
  unfold sel
  rw [List.filter_append]
  by_cases h : (fc F c).entity = e <;> simp [h]
theorem keq_int (a b : Int) : keq (.int .i64 a) (.int .i64 b) = decide (a = b) := by simp [keq]
theorem GX_new {F : List Fc} {seen : List Int} {es : List (Nat × SV × SV)} {Hm Hm' : List (Nat × ABlk)} {c e : Int} {clock id g : Nat} (h : GX F seen es Hm) (he : (fc F c).entity = e) (hs : sel F seen e = [])
    (hk : ∀ i g xs, lk i Hm = some (.arr 3 1 g false xs) → lk i Hm' = some (.arr 3 1 g false xs)) (hn : lk id Hm' = some (.arr 3 1 g false [[pint c]])) : GX F (seen ++ [c]) (es ++ [(clock, .pv (.lit (.int .i64 e)), .loc 1 id g 0 1)]) Hm' := by
  intro e'
  rw [sel_snoc]
  by_cases h1 : (fc F c).entity = e'
  · rw [if_pos h1]
    have : e' = e := h1.symm.trans he
    subst this
    rcases h e' with ⟨_, h3⟩ | ⟨h2, _⟩
    · refine .inr ⟨by simp, 0 + es.length, id, g, ?_, ?_⟩
      · rw [mfind_snoc (kl := .int .i64 e') rfl rfl h3, hs]; simp [keq_int]
      · rw [hs]; exact hn
    · exact absurd hs h2
  · rw [if_neg h1]
    have hne : e' ≠ e := fun x => h1 (he.trans x.symm)
    rcases h e' with ⟨h2, h3⟩ | ⟨h2, j, id', g', h3, h4⟩
    · refine .inl ⟨h2, ?_⟩
      rw [mfind_snoc (kl := .int .i64 e) rfl rfl h3]; simp [keq_int, hne]
    · exact .inr ⟨h2, j, id', g', mfind_snoc' h3, hk _ _ _ h4⟩
theorem ints_inj : ∀ {a b : List Int}, ints a = ints b → a = b
  | [], [], _ => rfl
  | [], _ :: _, h => by cases h
  | _ :: _, [], h => by cases h
  | x :: a, y :: b, h => by
    simp only [ints, List.map_cons, List.cons.injEq] at h
    have := ints_inj (a := a) (b := b) h.2
    subst this
    have h1 := h.1
    simp at h1
    rw [h1]
theorem GX_old {F : List Fc} {seen : List Int} {es : List (Nat × SV × SV)} {Hm Hm' : List (Nat × ABlk)} {c e : Int} {j id g : Nat} {q : Nat × SV × SV} (h : GX F seen es Hm) (he : (fc F c).entity = e) (hs : sel F seen e ≠ [])
    (hj : mfind (.int .i64) (.int .i64 e) es 0 = some (some (j, .loc 1 id g 0 (sel F seen e).length))) (hid : lk id Hm = some (.arr 3 1 g false (ints (sel F seen e)))) (hq : es[j]? = some q)
    (hk : ∀ i g xs, i ≠ id → lk i Hm = some (.arr 3 1 g false xs) → lk i Hm' = some (.arr 3 1 g false xs)) (hn : lk id Hm' = some (.arr 3 1 (g + 1) false (ints (sel F seen e) ++ [[pint c]]))) :
    GX F (seen ++ [c]) (es.set j (q.1, .pv (.lit (.int .i64 e)), .loc 1 id (g + 1) 0 ((sel F seen e).length + 1))) Hm' := by
  obtain ⟨m, q', w, e1, e2, e3, e4, e5, e6⟩ := mfind_get hj
  obtain rfl : j = m := by omega
  rw [hq] at e2
  injection e2 with e2
  subst e2
  have hw : w = .int .i64 e := (keq_ok (d := .int .i64) rfl e5).2 e6
  subst hw
  intro e'
  rw [sel_snoc]
  by_cases h1 : (fc F c).entity = e'
  · rw [if_pos h1]
    have : e' = e := h1.symm.trans he
    subst this
    refine .inr ⟨by simp, j, id, g + 1, ?_, ?_⟩
    · have := (mfind_set (c := q.1) (kv := .pv (.lit (.int .i64 e'))) (v := .loc 1 id (g + 1) 0 ((sel F seen e').length + 1)) rfl e5 hq e4 hj).2 _ e6 (by rw [Nat.zero_add])
      rw [this]; simp
    · rw [hn]; simp [ints]
  · rw [if_neg h1]
    have hne : e' ≠ e := fun x => h1 (he.trans x.symm)
    have hkq : keq (.int .i64 e') (.int .i64 e) = false := by simp [keq_int, hne]
    rcases h e' with ⟨h2, h3⟩ | ⟨h2, j', id', g', h3, h4⟩
    · exact .inl ⟨h2, (mfind_set rfl e5 hq e4 h3).1 hkq⟩
    · refine .inr ⟨h2, j', id', g', (mfind_set rfl e5 hq e4 h3).1 hkq, hk _ _ _ (fun x => ?_) h4⟩
      subst x
      rw [hid] at h4
      injection h4 with h4
      injection h4 with _ _ _ _ h4
      have h5 := ints_inj h4
      cases hx : sel F seen e with
      | nil => exact hs hx
      | cons b l =>
        have hb1 : b ∈ sel F seen e := by rw [hx]; simp
        have hb2 : b ∈ sel F seen e' := by rw [← h5]; exact hb1
        have g1 := (List.mem_filter.1 hb1).2
        have g2 := (List.mem_filter.1 hb2).2
        simp at g1 g2
        exact hne (g2.symm.trans g1)
theorem excs_append {F : List Fc} : ∀ {l1 l2 s : List Int}, excs F s (l1 ++ l2) = excs F s l1 ++ excs F (s ++ l1) l2
  | [], l2, s => by simp [excs]
  | c :: l1, l2, s => by
    simp only [List.cons_append, excs, excs_append (l1 := l1), List.append_assoc]
    simp
def excOk (F : List Fc) (c b : Int) : Bool := decide ((fc F c).variant ≠ -1) || decide ((fc F b).variant ≠ -1)
theorem excs_step {F : List Fc} {cs : List Int} {k : Nat} (h : k < cs.length) : excs F [] (cs.take (k + 1)) = excs F [] (cs.take k) ++ ((sel F (cs.take k) (fc F cs[k]).entity).filter (excOk F cs[k])).map fun b => [b, cs[k]] := by
  rw [List.take_succ_eq_append_getElem h, excs_append]
  simp only [excs, List.nil_append, List.append_nil, sel, List.filter_filter]
  congr 2
  apply List.filter_congr
  intro b _
  simp only [excl, excOk]
  rw [Bool.and_comm]
  congr 1
  apply decide_eq_decide.2
  exact ⟨fun h => h.symm, fun h => h.symm⟩
end
end Go.Proofs.T1
