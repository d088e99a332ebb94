import Derived.Test.YtpnpkigicnmopaaGreatDoorL9E
import Derived.RangeFuncLeaves
import Derived.RangeFuncNested
import Derived.Maps.AppendAt
import Derived.TacticsIn
import Derived.Laws.CopyRow
import Derived.Deep.OwnRows
import Derived.Maps.RangeRun
import Derived.Test.YtpnpkigicnmopaaGreatDoorProg
import Derived.KernelRfl
import Derived.Carry
import Derived.ChangeArms
import Derived.ChangeOld
import Derived.DataElems
import Derived.DataReads
import Derived.RowKit
import Derived.ChangeSame
import Derived.Laws.StructEq
import Derived.Lib.SliceRun
import Derived.Ground.NamesProg
import Derived.Shelf.Sort.Plain
import Derived.Lib.AppendStr
import Derived.Laws.Append
import Derived.Laws.IdiomStrings
import Derived.Ground.SlsfProg
import Derived.Shelf.SlSortCmp.Whole1
import Derived.Shelf.SlSortCmp.NoneTotal
import Derived.Test.YtpnpkigicnmopaaGreatDoorTie
import Derived.Test.YtpnpkigicnmopaaGreatDoorCards
import Derived.ProofKit
import Derived.LaidMore
import Derived.OpenShut
import Derived.Stop.Joined
import Derived.SevenTiedAt
/- The law DenialSupport holds: for every input that its row lets in, the call returns true and each argument reads as before. The row lists three package-level tables, which the card ties to the program's text. -/
set_option linter.unusedVariables false
set_option linter.unusedSimpArgs false
set_option linter.unnecessarySimpa false
set_option linter.all false
namespace Go.Proofs.T1
open Go.Vc
open Tryz
set_option linter.unusedSimpArgs false
set_option linter.unusedVariables false
set_option maxHeartbeats 4000000
set_option maxRecDepth 20000
attribute [local simp] runD_nil runD_cons runDO runDG runDV stabs stabO stabG runK_nil runK_cons runG_t runG_f runS_some runS_none gate dstOf step2 step1 vq vop vlook mput mfind isKeyB keq fin1 hbox halloc hstore hbuild hbuildSlice happend hmake vslice bound vbuild partsOf elemsOf inOrder topvs toPV svCells splice srcOf isNil St.ev St.evs St.fits St.put St.new St.upd St.frzs St.frz lk hset litOf vbuiltin vlen vbin vindex vfield vload rdc pvs capsOf Value.oneCell'
attribute [local simp] tsz3 tagg3 tbytes3 tint3 tzero3 tzero1_3 tsz4 tagg4 tbytes4 tbool4 tzero4 tzero1_4 tsz5 tagg5 tbytes5 tint5 tzero5 tzero1_5 tsz9 tagg9 tbytes9 tstr9 tzero9 tzero1_9 tsz22 tagg22 tel22 tbytes22 tzero22 tzero1_22 tsz23 tagg23 tel23 tbytes23 tzero23 tzero1_23 tsz24 tagg24 tel24 tbytes24 tzero24 tzero1_24 tsz25 tagg25 tbytes25 tzero25 tzero1_25 tsz29 tagg29 tel29 tbytes29 tzero29 tzero1_29 tsz30 tagg30 tel30 tbytes30 tzero30 tzero1_30 tsz32 tagg32 tbytes32 tzero32 foff32_0 foff32_1 foff32_2 foff32_3 foff32_4 foff32_5 foff32_6 foff32_7 foff32_8 foff32_9 tsz33 tagg33 tel33 tbytes33 tzero33 tzero1_33 tsz34 tagg34 tbytes34 tint34 tzero34 tzero1_34 tsz38 tagg38 tbytes38 tzero38 foff38_0 foff38_1 foff38_2 tsz47 tagg47 tel47 tbytes47 tzero47 tzero1_47 tsz52 tagg52 tel52 tbytes52 tzero52 tzero1_52 tsz54 tagg54 tbytes54 tzero54 foff54_0 foff54_1 foff54_2 foff54_3 foff54_4 foff54_5 tsz79 tagg79 tbytes79 tzero79 foff79_0 foff79_1 foff79_2 tsz117 tagg117 tbytes117 tzero117 foff117_0 foff117_1 foff117_2 tsz119 tagg119 tbytes119 tzero119 foff119_0 foff119_1 tsz121 tagg121 tbytes121 tzero121 foff121_0 foff121_1 foff121_2 foff121_3 tsz129 tagg129 tbytes129 tzero129 tzero1_129 tsz130 tagg130 tbytes130 tzero130 tzero1_130 tsz132 tagg132 tbytes132 tzero132 tzero1_132 tsz206 tagg206 tbytes206 tzero206 tzero1_206 mtype206 tsz208 tagg208 tbytes208 tsz217 tagg217 tel217 tbytes217 tzero217 tzero1_217 tsz220 tagg220 tbytes220 tzero220 foff220_0 foff220_1 tsz235 tagg235 tel235 tbytes235 tzero235 tzero1_235 tsz256 tagg256 tbytes256 tzero256 tzero1_256 mtype256 tsz351 tagg351 tbytes351 tzero351 tsz2 tagg2 tbytes2 tint2 tzero2 tzero1_2 tsz291 tagg291 tbytes291 tint291 tzero291 tzero1_291 sized32 places32_0 places32_1 places32_2 places32_3 places32_4 places32_5 places32_6 places32_7 places32_8 places32_9 sized38 places38_0 places38_1 places38_2 sized54 places54_0 places54_1 places54_2 places54_3 places54_4 places54_5 sized79 places79_0 places79_1 places79_2 sized117 places117_0 places117_1 places117_2 sized119 places119_0 places119_1 sized121 places121_0 places121_1 places121_2 places121_3 sized220 places220_0 places220_1
theorem enters42 : Enters Tryz.prog 42 := enters_mk Tryz.func42 (by kernel_rfl) (by kernel_rfl)
theorem any_end {α : Type} (p : α → Bool) {l : List α} {k : Nat} (h : ¬ k < l.length) : (l.drop k).any p = false := by rw [List.drop_of_length_le (by omega)]; rfl
theorem In_ok (xs : List Int) (n : Int) : CC Tryz.prog 42 [.pv (.sl 1 (ints xs)), sint n] (fun sv => sv = sbool (isIn xs n)) := by
  refine cc_of_pw Tryz.func42 rfl enters42 Tryz.ntmps42 (by simp) (pw_of_pws ?_)
  refine pws_ent (Ent.refl _) (pws_len (t := 0) (es := 1) (xs := ints xs) rfl fun hx => ?_)
  simp [maxLen] at hx
  repeat' (first | with_reducible refine pws_seq ?_ | with_reducible refine pws_block ?_ | ((with_reducible refine pws_regk fun K' S hK' hS => ?_); simp [argSlots, *]) | ((with_reducible refine Goes.go hK' ?_); clear hK' hS; clear K' S))
  refine pws_loop (α := { k : Nat // k ≤ xs.length }) (fun k => { n := 18, nx := 0, s := [(5, sint k.1), (0, .pv (.sl 1 (ints xs))), (1, sint n)], h := [], d := [] }) (fun k => xs.length - k.1) (fun k => isIn (xs.drop k.1) n = isIn xs n) ⟨0, by omega⟩ (by simp) (ent_sub rfl rfl rfl (by simp [SubL, *]) (by simp [SubL, *]) (by simp) (by simp) (by simp [slotsBelow, SV.lo, belowL]) (by simp [heapBelow, ABlk.lo, SV.lo, belowL, slotsBelow])) ?_; rintro ⟨k, hk⟩ hok K hK; simp only at hok
  by_cases h1 : k < xs.length
  · have hw := wrap64_id (n := (k : Int) + 1) (by omega)
    have hl := any_drop (fun x => decide (x = n)) h1
    rw [show (xs.drop k).any (fun x => decide (x = n)) = isIn xs n from hok] at hl
    by_cases he : xs[k] = n
    · repeat' (first | with_reducible refine pws_seq ?_ | with_reducible refine pws_skip ?_ | with_reducible refine pws_block ?_ | ((with_reducible refine pws_regk fun K' S hK' hS => ?_); simp [argSlots, *]) | ((with_reducible refine Goes.go hK' ?_); clear hK' hS; clear K' S) | ((with_reducible refine pws_true ?_ ?_); (· simp; done)) | with_reducible refine pws_ret ?_ | with_reducible refine blk_ret ?_ | with_reducible refine thenQ_ret ?_)
      all_goals (refine finC_ret (vs := ?_) [] (by first | exact .inr rfl | exact .inl rfl) rfl ?_ ?_ ?_; rotate_left; (· simp [Tryz.results42, resL, resOf]; rfl); (· first | rfl | (simp [wrapRes, cv, SV.const, constL]; done)); (· first | (simp [wrapRes, cv, *]; done) | (simp [wrapRes, cv, *]; grind) | (simp [wrapRes, cv, *]; omega)))
    · repeat' (first | with_reducible refine pws_seq ?_ | with_reducible refine pws_skip ?_ | with_reducible refine pws_block ?_ | ((with_reducible refine pws_regk fun K' S hK' hS => ?_); simp [argSlots, *]) | ((with_reducible refine Goes.go hK' ?_); clear hK' hS; clear K' S) | ((with_reducible refine pws_true ?_ ?_); (· simp; done)) | ((with_reducible refine pws_false ?_ ?_); (· simp; done)) | with_reducible refine blk_normal ?_ | with_reducible refine thenQ_normal ?_ | with_reducible refine pws_nil ?_)
      refine hK _ ⟨k + 1, by omega⟩ (ent_sub rfl rfl rfl (by simp [SubL, *]) (by simp [SubL, *]) (by simp) (by simp) (by simp [slotsBelow, SV.lo, belowL]) (by simp [heapBelow, ABlk.lo, SV.lo, belowL, slotsBelow])) ?_ (by simp; omega)
      rw [hl]
      simp [isIn, he]
  · have hl := any_end (fun x => decide (x = n)) h1
    rw [show (xs.drop k).any (fun x => decide (x = n)) = isIn xs n from hok] at hl
    repeat' (first | with_reducible refine pws_seq ?_ | ((with_reducible refine pws_regk fun K' S hK' hS => ?_); simp [argSlots, *]) | ((with_reducible refine Goes.go hK' ?_); clear hK' hS; clear K' S) | ((with_reducible refine pws_false ?_ ?_); (· simp; done)) | with_reducible refine pws_ret ?_ | with_reducible refine blk_same ?_ | with_reducible refine thenQ_exit ?_ | with_reducible refine pws_exit ?_)
    all_goals (refine finC_ret (vs := ?_) [] (by first | exact .inr rfl | exact .inl rfl) rfl ?_ ?_ ?_; rotate_left; (· simp [Tryz.results42, resL, resOf]; rfl); (· first | rfl | (simp [wrapRes, cv, SV.const, constL]; done)); (· first | (simp [wrapRes, cv, *]; done) | (simp [wrapRes, cv, *]; grind) | (simp [wrapRes, cv, *]; omega)))
end Go.Proofs.T1
namespace Go.Proofs.T1
open Go.Vc
theorem nf_pick {F : List Fc} {J : List Nat} {k : Nat} (h : k < J.length) : nf (pick F J) k = nf F J[k] := by
  unfold pick
  conv => lhs; unfold nf
  rw [List.getElem?_map, List.getElem?_eq_getElem h]
  rfl
theorem dang_rest {R : List Rl} {F : List Fc} {J : List Nat} (hJ : ∀ k, k ∈ J ↔ k < F.length ∧ ¬ isIn (dangL R F) (k : Int) = true) : dangL R (pick F J) = [] := by
  refine List.eq_nil_iff_forall_not_mem.2 fun x hx => ?_
  obtain ⟨h1, h2, h3⟩ := mem_dangL.1 hx
  refine h3 ⟨fun _ => True, fun k hk _ r hr hn => ?_, trivial⟩
  have hk' : k < J.length := by simpa [pick] using hk
  rw [nf_pick hk'] at hn ⊢
  obtain ⟨g1, g2⟩ := (hJ J[k]).1 (List.getElem_mem hk')
  rw [isIn_iff, mem_dangL] at g2
  have : ∃ S, Supp R F S ∧ S J[k] := Classical.byContradiction fun hn => g2 ⟨by omega, by omega, by simpa using hn⟩
  obtain ⟨S, hS, hSk⟩ := this
  obtain ⟨m, m1, m2, m3⟩ := hS _ g1 hSk r hr hn
  have hmJ : m ∈ J := (hJ m).2 ⟨m1, fun h => by
    rw [isIn_iff, mem_dangL] at h
    exact h.2.2 ⟨S, hS, by simpa using m2⟩⟩
  obtain ⟨i, hi, rfl⟩ := List.mem_iff_getElem.1 hmJ
  exact ⟨i, by simpa [pick] using hi, trivial, by rw [nf_pick hi]; exact m3⟩
theorem dang_part {R : List Rl} {F : List Fc} {J : List Nat} (hJ : ∀ k ∈ J, k < F.length) (h : dangL R (pick F J) = []) : ∀ k ∈ J, isIn (dangL R F) (k : Int) = false := by
  intro k hk
  cases hi : isIn (dangL R F) (k : Int) with
  | false => rfl
  | true =>
    exfalso
    rw [isIn_iff, mem_dangL] at hi
    refine hi.2.2 ⟨fun j => j ∈ J, fun j hj hjJ r hr hn => ?_, by simpa using hk⟩
    obtain ⟨i, hil, rfl⟩ := List.mem_iff_getElem.1 hjJ
    have hn0 : (i : Int) ∉ dangL R (pick F J) := by rw [h]; simp
    rw [mem_dangL] at hn0
    have : ∃ S, Supp R (pick F J) S ∧ S i := Classical.byContradiction fun hn => hn0 ⟨by omega, by simp [pick]; omega, by simpa using hn⟩
    obtain ⟨S, hS, hSi⟩ := this
    obtain ⟨m, m1, m2, m3⟩ := hS i (by simpa [pick] using hil) hSi r hr (by rw [nf_pick hil]; exact hn)
    have m1' : m < J.length := by simpa [pick] using m1
    rw [nf_pick hil, nf_pick m1'] at m3
    exact ⟨J[m], hJ _ (List.getElem_mem m1'), List.getElem_mem m1', m3⟩
end Go.Proofs.T1
namespace Go.Proofs.T1
open Go.Vc
open Tryz
set_option linter.unusedSimpArgs false
set_option linter.unusedVariables false
set_option maxHeartbeats 4000000
set_option maxRecDepth 20000
attribute [local simp] runD_nil runD_cons runDO runDG runDV stabs stabO stabG runK_nil runK_cons runG_t runG_f runS_some runS_none gate dstOf step2 step1 vq vop vlook mput mfind isKeyB keq fin1 hbox halloc hstore hbuild hbuildSlice happend hmake vslice bound vbuild partsOf elemsOf inOrder topvs toPV svCells splice srcOf isNil St.ev St.evs St.fits St.put St.new St.upd St.frzs St.frz lk hset litOf vbuiltin vlen vbin vindex vfield vload rdc pvs capsOf Value.oneCell'
attribute [local simp] tsz3 tagg3 tbytes3 tint3 tzero3 tzero1_3 tsz4 tagg4 tbytes4 tbool4 tzero4 tzero1_4 tsz5 tagg5 tbytes5 tint5 tzero5 tzero1_5 tsz9 tagg9 tbytes9 tstr9 tzero9 tzero1_9 tsz22 tagg22 tel22 tbytes22 tzero22 tzero1_22 tsz23 tagg23 tel23 tbytes23 tzero23 tzero1_23 tsz24 tagg24 tel24 tbytes24 tzero24 tzero1_24 tsz25 tagg25 tbytes25 tzero25 tzero1_25 tsz29 tagg29 tel29 tbytes29 tzero29 tzero1_29 tsz30 tagg30 tel30 tbytes30 tzero30 tzero1_30 tsz32 tagg32 tbytes32 tzero32 foff32_0 foff32_1 foff32_2 foff32_3 foff32_4 foff32_5 foff32_6 foff32_7 foff32_8 foff32_9 tsz33 tagg33 tel33 tbytes33 tzero33 tzero1_33 tsz34 tagg34 tbytes34 tint34 tzero34 tzero1_34 tsz38 tagg38 tbytes38 tzero38 foff38_0 foff38_1 foff38_2 tsz47 tagg47 tel47 tbytes47 tzero47 tzero1_47 tsz52 tagg52 tel52 tbytes52 tzero52 tzero1_52 tsz54 tagg54 tbytes54 tzero54 foff54_0 foff54_1 foff54_2 foff54_3 foff54_4 foff54_5 tsz79 tagg79 tbytes79 tzero79 foff79_0 foff79_1 foff79_2 tsz117 tagg117 tbytes117 tzero117 foff117_0 foff117_1 foff117_2 tsz119 tagg119 tbytes119 tzero119 foff119_0 foff119_1 tsz121 tagg121 tbytes121 tzero121 foff121_0 foff121_1 foff121_2 foff121_3 tsz129 tagg129 tbytes129 tzero129 tzero1_129 tsz130 tagg130 tbytes130 tzero130 tzero1_130 tsz132 tagg132 tbytes132 tzero132 tzero1_132 tsz206 tagg206 tbytes206 tzero206 tzero1_206 mtype206 tsz208 tagg208 tbytes208 tsz217 tagg217 tel217 tbytes217 tzero217 tzero1_217 tsz220 tagg220 tbytes220 tzero220 foff220_0 foff220_1 tsz235 tagg235 tel235 tbytes235 tzero235 tzero1_235 tsz256 tagg256 tbytes256 tzero256 tzero1_256 mtype256 tsz351 tagg351 tbytes351 tzero351 tsz2 tagg2 tbytes2 tint2 tzero2 tzero1_2 tsz291 tagg291 tbytes291 tint291 tzero291 tzero1_291 sized32 places32_0 places32_1 places32_2 places32_3 places32_4 places32_5 places32_6 places32_7 places32_8 places32_9 sized38 places38_0 places38_1 places38_2 sized54 places54_0 places54_1 places54_2 places54_3 places54_4 places54_5 sized79 places79_0 places79_1 places79_2 sized117 places117_0 places117_1 places117_2 sized119 places119_0 places119_1 sized121 places121_0 places121_1 places121_2 places121_3 sized220 places220_0 places220_1
attribute [local simp] V.c V.z Sd.c Tst.c Fx.c Rl.c Fc.c Gr.c wrap1f take_map_len take_map_len1 wrap1 wrap2 wrap3
end Go.Proofs.T1
namespace Go.Proofs.T1
open Go.Vc
open Tryz
set_option linter.unusedSimpArgs false
set_option linter.unusedVariables false
set_option maxHeartbeats 4000000
set_option maxRecDepth 20000
attribute [local simp] runD_nil runD_cons runDO runDG runDV stabs stabO stabG runK_nil runK_cons runG_t runG_f runS_some runS_none gate dstOf step2 step1 vq vop vlook mput mfind isKeyB keq fin1 hbox halloc hstore hbuild hbuildSlice happend hmake vslice bound vbuild partsOf elemsOf inOrder topvs toPV svCells splice srcOf isNil St.ev St.evs St.fits St.put St.new St.upd St.frzs St.frz lk hset litOf vbuiltin vlen vbin vindex vfield vload rdc pvs capsOf Value.oneCell'
attribute [local simp] tsz3 tagg3 tbytes3 tint3 tzero3 tzero1_3 tsz4 tagg4 tbytes4 tbool4 tzero4 tzero1_4 tsz5 tagg5 tbytes5 tint5 tzero5 tzero1_5 tsz9 tagg9 tbytes9 tstr9 tzero9 tzero1_9 tsz22 tagg22 tel22 tbytes22 tzero22 tzero1_22 tsz23 tagg23 tel23 tbytes23 tzero23 tzero1_23 tsz24 tagg24 tel24 tbytes24 tzero24 tzero1_24 tsz25 tagg25 tbytes25 tzero25 tzero1_25 tsz29 tagg29 tel29 tbytes29 tzero29 tzero1_29 tsz30 tagg30 tel30 tbytes30 tzero30 tzero1_30 tsz32 tagg32 tbytes32 tzero32 foff32_0 foff32_1 foff32_2 foff32_3 foff32_4 foff32_5 foff32_6 foff32_7 foff32_8 foff32_9 tsz33 tagg33 tel33 tbytes33 tzero33 tzero1_33 tsz34 tagg34 tbytes34 tint34 tzero34 tzero1_34 tsz38 tagg38 tbytes38 tzero38 foff38_0 foff38_1 foff38_2 tsz47 tagg47 tel47 tbytes47 tzero47 tzero1_47 tsz52 tagg52 tel52 tbytes52 tzero52 tzero1_52 tsz54 tagg54 tbytes54 tzero54 foff54_0 foff54_1 foff54_2 foff54_3 foff54_4 foff54_5 tsz79 tagg79 tbytes79 tzero79 foff79_0 foff79_1 foff79_2 tsz117 tagg117 tbytes117 tzero117 foff117_0 foff117_1 foff117_2 tsz119 tagg119 tbytes119 tzero119 foff119_0 foff119_1 tsz121 tagg121 tbytes121 tzero121 foff121_0 foff121_1 foff121_2 foff121_3 tsz129 tagg129 tbytes129 tzero129 tzero1_129 tsz130 tagg130 tbytes130 tzero130 tzero1_130 tsz132 tagg132 tbytes132 tzero132 tzero1_132 tsz206 tagg206 tbytes206 tzero206 tzero1_206 mtype206 tsz208 tagg208 tbytes208 tsz217 tagg217 tel217 tbytes217 tzero217 tzero1_217 tsz220 tagg220 tbytes220 tzero220 foff220_0 foff220_1 tsz235 tagg235 tel235 tbytes235 tzero235 tzero1_235 tsz256 tagg256 tbytes256 tzero256 tzero1_256 mtype256 tsz351 tagg351 tbytes351 tzero351 tsz2 tagg2 tbytes2 tint2 tzero2 tzero1_2 tsz291 tagg291 tbytes291 tint291 tzero291 tzero1_291 sized32 places32_0 places32_1 places32_2 places32_3 places32_4 places32_5 places32_6 places32_7 places32_8 places32_9 sized38 places38_0 places38_1 places38_2 sized54 places54_0 places54_1 places54_2 places54_3 places54_4 places54_5 sized79 places79_0 places79_1 places79_2 sized117 places117_0 places117_1 places117_2 sized119 places119_0 places119_1 sized121 places121_0 places121_1 places121_2 places121_3 sized220 places220_0 places220_1
attribute [local simp] V.c V.z Sd.c Tst.c Fx.c Rl.c Fc.c Gr.c wrap1f take_map_len take_map_len1 wrap1 wrap2 wrap3
theorem enters8 : Enters Tryz.prog 8 := enters_mk Tryz.func8 (by kernel_rfl) (by kernel_rfl)
/-- The numbers below 'k' that are not in 'L'. -/
def wb (w : List Bool) (k : Nat) : Bool := w.getD k false
def restJ (L : List Int) (k : Nat) : List Nat := (List.range k).filter fun i => !isIn L (i : Int)
def partJ (w : List Bool) (k : Nat) : List Nat := (List.range k).filter fun i => wb w i
def hitJ (L : List Int) (w : List Bool) (k : Nat) : Bool := (List.range k).any fun i => wb w i && isIn L (i : Int)
def restF (F : List Fc) (L : List Int) (k : Nat) : List Fc := pick F (restJ L k)
def partF (F : List Fc) (w : List Bool) (k : Nat) : List Fc := pick F (partJ w k)
theorem restF_succ {F : List Fc} {L : List Int} {k : Nat} (h : k < F.length) : restF F L (k + 1) = if isIn L (k : Int) then restF F L k else restF F L k ++ [F[k]] := by
  unfold restF restJ pick
  rw [List.range_succ, List.filter_append, List.map_append]
  cases hi : isIn L (k : Int) <;> simp [hi, nf_get h]
theorem partF_succ {F : List Fc} {w : List Bool} {k : Nat} (h : k < F.length) : partF F w (k + 1) = if wb w k then partF F w k ++ [F[k]] else partF F w k := by
  unfold partF partJ pick
  rw [List.range_succ, List.filter_append, List.map_append]
  cases hi : wb w k <;> simp [hi, nf_get h]
theorem hitJ_succ {L : List Int} {w : List Bool} {k : Nat} : hitJ L w (k + 1) = (hitJ L w k || (wb w k && isIn L (k : Int))) := by
  unfold hitJ
  rw [List.range_succ, List.any_append]
  simp
theorem restF_len (F : List Fc) (L : List Int) (k : Nat) : (restF F L k).length ≤ k := by
  have := List.length_filter_le (fun i => !isIn L ((i : Nat) : Int)) (List.range k)
  simpa [restF, restJ, pick] using this
theorem partF_len (F : List Fc) (w : List Bool) (k : Nat) : (partF F w k).length ≤ k := by
  have := List.length_filter_le (fun i => wb w i) (List.range k)
  simpa [partF, partJ, pick] using this
theorem rest_end {R : List Rl} {F : List Fc} : dangL R (restF F (dangL R F) F.length) = [] := dang_rest fun k => by simp [restJ]
theorem part_end {R : List Rl} {F : List Fc} {w : List Bool} (h : dangL R (partF F w F.length) = []) : hitJ (dangL R F) w F.length = false := by
  have := dang_part (fun k hk => by simp [partJ] at hk; exact hk.1) h
  unfold hitJ
  rw [List.any_eq_false]
  intro k hk
  cases hw : wb w k with
  | false => simp
  | true =>
    rw [this k (by simp only [partJ, List.mem_filter]; exact ⟨hk, hw⟩)]
    simp
theorem getD_lt {w : List Bool} {k : Nat} (h : k < w.length) : wb w k = w[k] := by simp [wb, h]
theorem getD_ge {w : List Bool} {k : Nat} (h : ¬ k < w.length) : wb w k = false := by simp [wb, Nat.le_of_not_lt h]
theorem law8_ok (R : List Rl) (F : List Fc) (which : List Bool) : CC Tryz.prog 8 [.pv (.sl 10 (prules R)), .pv (.sl 6 (pfacts F)), .pv (.sl 1 (pbools which))] (fun sv => sv = sbool true) := by
  refine cc_of_pw Tryz.func8 rfl enters8 Tryz.ntmps8 (by simp) (pw_of_pws ?_)
  have hf := few_ok R F 12
  cases hq : fewQ R F 12 with
  | false =>
    rw [hq] at hf
    clear hq
    repeat' (first | with_reducible refine pws_seq ?_ | ((with_reducible refine pws_regk fun K' S hK' hS => ?_); simp [argSlots, *]) | ((with_reducible refine Goes.go hK' ?_); clear hK' hS; clear K' S) | ((with_reducible refine GoesS.go hS ?_); clear hK' hS; clear K' S) | ((with_reducible refine pws_true ?_ ?_); (· simp; done)) | with_reducible refine pws_ret ?_ | ((with_reducible refine pwl_callk (c := ?_) (x := ?_) (f := ?_) (svs := ?_) (cs := ?_) (Qr := ?_) true ?_ ?_ ?_ ?_ ?_ ?_ ?_ ?_ ?_); rotate_left 6; (· (simp [argSlots, *]; done)); (· rfl); (· rfl); (· (simp; with_reducible rfl)); (· (simp; with_reducible rfl)); (· first | (simp [bors, bor]; with_reducible rfl) | (simp [bors, bor, *]; with_reducible rfl)); (· rfl); (· ((with_reducible refine head_ok))); (rintro sv hsv hsc; clear hsc; obtain rfl := hsv; refine ⟨(by first | (intro _; rfl) | (intro h; cases h)), ?_⟩; refine pwl_runk fun K' S hK' hS => ?_; simp [argSlots, *])) | ((with_reducible refine pwl_callk (c := ?_) (x := ?_) (f := ?_) (svs := ?_) (cs := ?_) (Qr := ?_) true ?_ ?_ ?_ ?_ ?_ ?_ ?_ ?_ ?_); rotate_left 6; (· (simp [argSlots, *]; done)); (· rfl); (· rfl); (· (simp; with_reducible rfl)); (· (simp; with_reducible rfl)); (· first | (simp [bors, bor]; with_reducible rfl) | (simp [bors, bor, *]; with_reducible rfl)); (· rfl); (· ((with_reducible refine hf))); (rintro sv hsv hsc; clear hsc; obtain rfl := hsv; refine ⟨(by first | (intro _; rfl) | (intro h; cases h)), ?_⟩; refine pwl_runk fun K' S hK' hS => ?_; simp [argSlots, *])) | fail)
    all_goals (refine finC_ret (vs := ?_) [] (by first | exact .inr rfl | exact .inl rfl) rfl ?_ ?_ ?_; rotate_left; (· simp [Tryz.results8, resL, resOf]; rfl); (· first | rfl | (simp [wrapRes, cv, SV.const, constL]; done)); (· first | (simp [wrapRes, cv, *]; done) | (simp [wrapRes, cv, *]; grind) | (simp [wrapRes, cv, *]; omega)))
  | true =>
    rw [hq] at hf
    obtain ⟨hR, hF, hl⟩ := fewQ_ok hq
    clear hq hR
    have hd0 := dDangling_ok R F (by omega)
    have hre := rest_end (R := R) (F := F)
    have hpe := part_end (R := R) (F := F) (w := which)
    have hdr := dDangling_ok R (restF F (dangL R F) F.length) (by have := restF_len F (dangL R F) F.length; omega)
    have hdp := dDangling_ok R (partF F which F.length) (by have := partF_len F which F.length; omega)
    rw [hre] at hdr
    clear hre
    generalize dangL R F = L at *
    repeat' (first | with_reducible refine pws_seq ?_ | with_reducible refine pws_skip ?_ | with_reducible refine pws_block ?_ | ((with_reducible refine pws_regk fun K' S hK' hS => ?_); simp [argSlots, *]) | ((with_reducible refine Goes.go hK' ?_); clear hK' hS; clear K' S) | ((with_reducible refine GoesS.go hS ?_); clear hK' hS; clear K' S) | ((with_reducible refine pws_false ?_ ?_); (· simp; done)) | ((with_reducible refine pwl_callk (c := ?_) (x := ?_) (f := ?_) (svs := ?_) (cs := ?_) (Qr := ?_) true ?_ ?_ ?_ ?_ ?_ ?_ ?_ ?_ ?_); rotate_left 6; (· (simp [argSlots, *]; done)); (· rfl); (· rfl); (· (simp; with_reducible rfl)); (· (simp; with_reducible rfl)); (· first | (simp [bors, bor]; with_reducible rfl) | (simp [bors, bor, *]; with_reducible rfl)); (· rfl); (· ((with_reducible refine head_ok))); (rintro sv hsv hsc; clear hsc; obtain rfl := hsv; refine ⟨(by first | (intro _; rfl) | (intro h; cases h)), ?_⟩; refine pwl_runk fun K' S hK' hS => ?_; simp [argSlots, *])) | ((with_reducible refine pwl_callk (c := ?_) (x := ?_) (f := ?_) (svs := ?_) (cs := ?_) (Qr := ?_) true ?_ ?_ ?_ ?_ ?_ ?_ ?_ ?_ ?_); rotate_left 6; (· (simp [argSlots, *]; done)); (· rfl); (· rfl); (· (simp; with_reducible rfl)); (· (simp; with_reducible rfl)); (· first | (simp [bors, bor]; with_reducible rfl) | (simp [bors, bor, *]; with_reducible rfl)); (· rfl); (· ((with_reducible refine hf))); (rintro sv hsv hsc; clear hsc; obtain rfl := hsv; refine ⟨(by first | (intro _; rfl) | (intro h; cases h)), ?_⟩; refine pwl_runk fun K' S hK' hS => ?_; simp [argSlots, *])) | ((with_reducible refine pwl_callk (c := ?_) (x := ?_) (f := ?_) (svs := ?_) (cs := ?_) (Qr := ?_) false ?_ ?_ ?_ ?_ ?_ ?_ ?_ ?_ ?_); rotate_left 6; (· (simp [argSlots, *]; done)); (· rfl); (· rfl); (· (simp; with_reducible rfl)); (· (simp; with_reducible rfl)); (· first | (simp [bors, bor]; with_reducible rfl) | (simp [bors, bor, *]; with_reducible rfl)); (· rfl); (· ((with_reducible refine hd0))); (rintro sv hsv hsc; clear hsc; obtain rfl := hsv; refine ⟨(by first | (intro _; rfl) | (intro h; cases h)), ?_⟩; refine pwl_runk fun K' S hK' hS => ?_; simp [argSlots, *])) | fail)
    refine pws_ent (ent_adopts (v := 9) (t := 54) (es := 6) rfl (by decide)) ?_
    refine pws_ent (ent_adopts (v := 10) (t := 54) (es := 6) rfl (by decide)) ?_
    refine pws_loop (α := { v : Nat × Nat × Nat // v.1 ≤ F.length }) (fun v => { n := 81, nx := 2, s := [(12, sint v.1.1), (11, sbool (hitJ L which v.1.1)), (9, .loc 6 0 v.1.2.1 0 (restF F L v.1.1).length), (10, .loc 6 1 v.1.2.2 0 (partF F which v.1.1).length), (8, .pv (.sl 1 (ints L))), (7, sbool true), (0, .pv (.sl 10 (prules R))), (1, .pv (.sl 6 (pfacts F))), (2, .pv (.sl 1 (pbools which)))], h := [(1, .arr 54 6 v.1.2.2 false (pfacts (partF F which v.1.1))), (0, .arr 54 6 v.1.2.1 false (pfacts (restF F L v.1.1)))], d := [] }) (fun v => F.length - v.1.1) (fun _ => True) ⟨(0, 0, 0), by simp⟩ trivial (ent_sub rfl rfl rfl (by simp [SubL, restF, restJ, partF, partJ, pick, hitJ, *]) (by simp [SubL, restF, restJ, partF, partJ, pick, *]) (by simp) (by simp) (by simp [slotsBelow, SV.lo, belowL]) (by simp [heapBelow, ABlk.lo, SV.lo, belowL, slotsBelow])) ?_
    rintro ⟨⟨k, g1, g2⟩, hk⟩ _ K hK
    simp only at hk
    have hrl := restF_len F L k
    have hpl := partF_len F which k
    by_cases h1 : k < F.length
    · have hw := wrap64_id (n := (k : Int) + 1) (by omega)
      have hin := In_ok L k
      have hrs := restF_succ (L := L) h1
      have hps := partF_succ (w := which) h1
      have hhs := hitJ_succ (L := L) (w := which) (k := k)
      have hb1 : ((restF F L k).length + 1) * 80 ≤ 140737488355328 := by omega
      have hb2 : ((partF F which k).length + 1) * 80 ≤ 140737488355328 := by omega
      clear hpe hdr hdp hd0
      generalize restF F L k = G1 at *
      generalize partF F which k = G2 at *
      generalize hitJ L which k = c at *
      cases hii : isIn L (k : Int) with
      | true =>
        rw [hii] at hin hrs hhs
        by_cases h2 : k < which.length
        · rw [getD_lt h2] at hps hhs
          cases hwk : which[k] with
          | true =>
            rw [hwk] at hps hhs
            simp at hps hhs hrs
            cases c
            · repeat' (first | with_reducible refine pws_seq ?_ | with_reducible refine pws_skip ?_ | with_reducible refine pws_block ?_ | ((with_reducible refine pws_regk fun K' S hK' hS => ?_); simp [argSlots, *]) | ((with_reducible refine Goes.go hK' ?_); clear hK' hS; clear K' S) | ((with_reducible refine GoesS.go hS ?_); clear hK' hS; clear K' S) | ((with_reducible refine pws_true ?_ ?_); (· simp; done)) | ((with_reducible refine pws_false ?_ ?_); (· simp; done)) | with_reducible refine blk_normal ?_ | with_reducible refine thenQ_normal ?_ | with_reducible refine pws_nil ?_ | ((with_reducible refine pwl_callk (c := ?_) (x := ?_) (f := ?_) (svs := ?_) (cs := ?_) (Qr := ?_) false ?_ ?_ ?_ ?_ ?_ ?_ ?_ ?_ ?_); rotate_left 6; (· (simp [argSlots, *]; done)); (· rfl); (· rfl); (· (simp; with_reducible rfl)); (· (simp; with_reducible rfl)); (· first | (simp [bors, bor]; with_reducible rfl) | (simp [bors, bor, *]; with_reducible rfl)); (· rfl); (· ((with_reducible refine hin))); (rintro sv hsv hsc; clear hsc; obtain rfl := hsv; refine ⟨(by first | (intro _; rfl) | (intro h; cases h)), ?_⟩; refine pwl_runk fun K' S hK' hS => ?_; simp [argSlots, *])) | fail)
              refine hK _ ⟨(k + 1, g1, g2 + 1), by simp; omega⟩ (ent_sub rfl rfl rfl (by simp [SubL, hrs, hps, hhs, *]) (by simp [SubL, hrs, hps, *]) (by simp) (by simp) (by simp [slotsBelow, SV.lo, belowL]) (by simp [heapBelow, ABlk.lo, SV.lo, belowL, slotsBelow])) trivial (by simp; omega)
            · repeat' (first | with_reducible refine pws_seq ?_ | with_reducible refine pws_skip ?_ | with_reducible refine pws_block ?_ | ((with_reducible refine pws_regk fun K' S hK' hS => ?_); simp [argSlots, *]) | ((with_reducible refine Goes.go hK' ?_); clear hK' hS; clear K' S) | ((with_reducible refine GoesS.go hS ?_); clear hK' hS; clear K' S) | ((with_reducible refine pws_true ?_ ?_); (· simp; done)) | ((with_reducible refine pws_false ?_ ?_); (· simp; done)) | with_reducible refine blk_normal ?_ | with_reducible refine thenQ_normal ?_ | with_reducible refine pws_nil ?_ | ((with_reducible refine pwl_callk (c := ?_) (x := ?_) (f := ?_) (svs := ?_) (cs := ?_) (Qr := ?_) false ?_ ?_ ?_ ?_ ?_ ?_ ?_ ?_ ?_); rotate_left 6; (· (simp [argSlots, *]; done)); (· rfl); (· rfl); (· (simp; with_reducible rfl)); (· (simp; with_reducible rfl)); (· first | (simp [bors, bor]; with_reducible rfl) | (simp [bors, bor, *]; with_reducible rfl)); (· rfl); (· ((with_reducible refine hin))); (rintro sv hsv hsc; clear hsc; obtain rfl := hsv; refine ⟨(by first | (intro _; rfl) | (intro h; cases h)), ?_⟩; refine pwl_runk fun K' S hK' hS => ?_; simp [argSlots, *])) | fail)
              refine hK _ ⟨(k + 1, g1, g2 + 1), by simp; omega⟩ (ent_sub rfl rfl rfl (by simp [SubL, hrs, hps, hhs, *]) (by simp [SubL, hrs, hps, *]) (by simp) (by simp) (by simp [slotsBelow, SV.lo, belowL]) (by simp [heapBelow, ABlk.lo, SV.lo, belowL, slotsBelow])) trivial (by simp; omega)
          | false =>
            rw [hwk] at hps hhs
            simp at hps hhs hrs
            repeat' (first | with_reducible refine pws_seq ?_ | with_reducible refine pws_skip ?_ | with_reducible refine pws_block ?_ | ((with_reducible refine pws_regk fun K' S hK' hS => ?_); simp [argSlots, *]) | ((with_reducible refine Goes.go hK' ?_); clear hK' hS; clear K' S) | ((with_reducible refine GoesS.go hS ?_); clear hK' hS; clear K' S) | ((with_reducible refine pws_true ?_ ?_); (· simp; done)) | ((with_reducible refine pws_false ?_ ?_); (· simp; done)) | with_reducible refine blk_normal ?_ | with_reducible refine thenQ_normal ?_ | with_reducible refine pws_nil ?_ | ((with_reducible refine pwl_callk (c := ?_) (x := ?_) (f := ?_) (svs := ?_) (cs := ?_) (Qr := ?_) false ?_ ?_ ?_ ?_ ?_ ?_ ?_ ?_ ?_); rotate_left 6; (· (simp [argSlots, *]; done)); (· rfl); (· rfl); (· (simp; with_reducible rfl)); (· (simp; with_reducible rfl)); (· first | (simp [bors, bor]; with_reducible rfl) | (simp [bors, bor, *]; with_reducible rfl)); (· rfl); (· ((with_reducible refine hin))); (rintro sv hsv hsc; clear hsc; obtain rfl := hsv; refine ⟨(by first | (intro _; rfl) | (intro h; cases h)), ?_⟩; refine pwl_runk fun K' S hK' hS => ?_; simp [argSlots, *])) | fail)
            refine hK _ ⟨(k + 1, g1, g2), by simp; omega⟩ (ent_sub rfl rfl rfl (by simp [SubL, hrs, hps, hhs, *]) (by simp [SubL, hrs, hps, *]) (by simp) (by simp) (by simp [slotsBelow, SV.lo, belowL]) (by simp [heapBelow, ABlk.lo, SV.lo, belowL, slotsBelow])) trivial (by simp; omega)
        · rw [getD_ge h2] at hps hhs
          simp at hps hhs hrs
          repeat' (first | with_reducible refine pws_seq ?_ | with_reducible refine pws_skip ?_ | with_reducible refine pws_block ?_ | ((with_reducible refine pws_regk fun K' S hK' hS => ?_); simp [argSlots, *]) | ((with_reducible refine Goes.go hK' ?_); clear hK' hS; clear K' S) | ((with_reducible refine GoesS.go hS ?_); clear hK' hS; clear K' S) | ((with_reducible refine pws_true ?_ ?_); (· simp; done)) | ((with_reducible refine pws_false ?_ ?_); (· simp; done)) | with_reducible refine blk_normal ?_ | with_reducible refine thenQ_normal ?_ | with_reducible refine pws_nil ?_ | ((with_reducible refine pwl_callk (c := ?_) (x := ?_) (f := ?_) (svs := ?_) (cs := ?_) (Qr := ?_) false ?_ ?_ ?_ ?_ ?_ ?_ ?_ ?_ ?_); rotate_left 6; (· (simp [argSlots, *]; done)); (· rfl); (· rfl); (· (simp; with_reducible rfl)); (· (simp; with_reducible rfl)); (· first | (simp [bors, bor]; with_reducible rfl) | (simp [bors, bor, *]; with_reducible rfl)); (· rfl); (· ((with_reducible refine hin))); (rintro sv hsv hsc; clear hsc; obtain rfl := hsv; refine ⟨(by first | (intro _; rfl) | (intro h; cases h)), ?_⟩; refine pwl_runk fun K' S hK' hS => ?_; simp [argSlots, *])) | fail)
          refine hK _ ⟨(k + 1, g1, g2), by simp; omega⟩ (ent_sub rfl rfl rfl (by simp [SubL, hrs, hps, hhs, *]) (by simp [SubL, hrs, hps, *]) (by simp) (by simp) (by simp [slotsBelow, SV.lo, belowL]) (by simp [heapBelow, ABlk.lo, SV.lo, belowL, slotsBelow])) trivial (by simp; omega)
      | false =>
        rw [hii] at hin hrs hhs
        by_cases h2 : k < which.length
        · rw [getD_lt h2] at hps hhs
          cases hwk : which[k] with
          | true =>
            rw [hwk] at hps hhs
            simp at hps hhs hrs
            cases c
            · repeat' (first | with_reducible refine pws_seq ?_ | with_reducible refine pws_skip ?_ | with_reducible refine pws_block ?_ | ((with_reducible refine pws_regk fun K' S hK' hS => ?_); simp [argSlots, *]) | ((with_reducible refine Goes.go hK' ?_); clear hK' hS; clear K' S) | ((with_reducible refine GoesS.go hS ?_); clear hK' hS; clear K' S) | ((with_reducible refine pws_true ?_ ?_); (· simp; done)) | with_reducible refine blk_normal ?_ | with_reducible refine thenQ_normal ?_ | with_reducible refine pws_nil ?_ | ((with_reducible refine pwl_callk (c := ?_) (x := ?_) (f := ?_) (svs := ?_) (cs := ?_) (Qr := ?_) false ?_ ?_ ?_ ?_ ?_ ?_ ?_ ?_ ?_); rotate_left 6; (· (simp [argSlots, *]; done)); (· rfl); (· rfl); (· (simp; with_reducible rfl)); (· (simp; with_reducible rfl)); (· first | (simp [bors, bor]; with_reducible rfl) | (simp [bors, bor, *]; with_reducible rfl)); (· rfl); (· ((with_reducible refine hin))); (rintro sv hsv hsc; clear hsc; obtain rfl := hsv; refine ⟨(by first | (intro _; rfl) | (intro h; cases h)), ?_⟩; refine pwl_runk fun K' S hK' hS => ?_; simp [argSlots, *])) | fail)
              refine hK _ ⟨(k + 1, g1 + 1, g2 + 1), by simp; omega⟩ (ent_sub rfl rfl rfl (by simp [SubL, hrs, hps, hhs, *]) (by simp [SubL, hrs, hps, *]) (by simp) (by simp) (by simp [slotsBelow, SV.lo, belowL]) (by simp [heapBelow, ABlk.lo, SV.lo, belowL, slotsBelow])) trivial (by simp; omega)
            · repeat' (first | with_reducible refine pws_seq ?_ | with_reducible refine pws_skip ?_ | with_reducible refine pws_block ?_ | ((with_reducible refine pws_regk fun K' S hK' hS => ?_); simp [argSlots, *]) | ((with_reducible refine Goes.go hK' ?_); clear hK' hS; clear K' S) | ((with_reducible refine GoesS.go hS ?_); clear hK' hS; clear K' S) | ((with_reducible refine pws_true ?_ ?_); (· simp; done)) | with_reducible refine blk_normal ?_ | with_reducible refine thenQ_normal ?_ | with_reducible refine pws_nil ?_ | ((with_reducible refine pwl_callk (c := ?_) (x := ?_) (f := ?_) (svs := ?_) (cs := ?_) (Qr := ?_) false ?_ ?_ ?_ ?_ ?_ ?_ ?_ ?_ ?_); rotate_left 6; (· (simp [argSlots, *]; done)); (· rfl); (· rfl); (· (simp; with_reducible rfl)); (· (simp; with_reducible rfl)); (· first | (simp [bors, bor]; with_reducible rfl) | (simp [bors, bor, *]; with_reducible rfl)); (· rfl); (· ((with_reducible refine hin))); (rintro sv hsv hsc; clear hsc; obtain rfl := hsv; refine ⟨(by first | (intro _; rfl) | (intro h; cases h)), ?_⟩; refine pwl_runk fun K' S hK' hS => ?_; simp [argSlots, *])) | fail)
              refine hK _ ⟨(k + 1, g1 + 1, g2 + 1), by simp; omega⟩ (ent_sub rfl rfl rfl (by simp [SubL, hrs, hps, hhs, *]) (by simp [SubL, hrs, hps, *]) (by simp) (by simp) (by simp [slotsBelow, SV.lo, belowL]) (by simp [heapBelow, ABlk.lo, SV.lo, belowL, slotsBelow])) trivial (by simp; omega)
          | false =>
            rw [hwk] at hps hhs
            simp at hps hhs hrs
            repeat' (first | with_reducible refine pws_seq ?_ | with_reducible refine pws_skip ?_ | with_reducible refine pws_block ?_ | ((with_reducible refine pws_regk fun K' S hK' hS => ?_); simp [argSlots, *]) | ((with_reducible refine Goes.go hK' ?_); clear hK' hS; clear K' S) | ((with_reducible refine GoesS.go hS ?_); clear hK' hS; clear K' S) | ((with_reducible refine pws_true ?_ ?_); (· simp; done)) | ((with_reducible refine pws_false ?_ ?_); (· simp; done)) | with_reducible refine blk_normal ?_ | with_reducible refine thenQ_normal ?_ | with_reducible refine pws_nil ?_ | ((with_reducible refine pwl_callk (c := ?_) (x := ?_) (f := ?_) (svs := ?_) (cs := ?_) (Qr := ?_) false ?_ ?_ ?_ ?_ ?_ ?_ ?_ ?_ ?_); rotate_left 6; (· (simp [argSlots, *]; done)); (· rfl); (· rfl); (· (simp; with_reducible rfl)); (· (simp; with_reducible rfl)); (· first | (simp [bors, bor]; with_reducible rfl) | (simp [bors, bor, *]; with_reducible rfl)); (· rfl); (· ((with_reducible refine hin))); (rintro sv hsv hsc; clear hsc; obtain rfl := hsv; refine ⟨(by first | (intro _; rfl) | (intro h; cases h)), ?_⟩; refine pwl_runk fun K' S hK' hS => ?_; simp [argSlots, *])) | fail)
            refine hK _ ⟨(k + 1, g1 + 1, g2), by simp; omega⟩ (ent_sub rfl rfl rfl (by simp [SubL, hrs, hps, hhs, *]) (by simp [SubL, hrs, hps, *]) (by simp) (by simp) (by simp [slotsBelow, SV.lo, belowL]) (by simp [heapBelow, ABlk.lo, SV.lo, belowL, slotsBelow])) trivial (by simp; omega)
        · rw [getD_ge h2] at hps hhs
          simp at hps hhs hrs
          repeat' (first | with_reducible refine pws_seq ?_ | with_reducible refine pws_skip ?_ | with_reducible refine pws_block ?_ | ((with_reducible refine pws_regk fun K' S hK' hS => ?_); simp [argSlots, *]) | ((with_reducible refine Goes.go hK' ?_); clear hK' hS; clear K' S) | ((with_reducible refine GoesS.go hS ?_); clear hK' hS; clear K' S) | ((with_reducible refine pws_true ?_ ?_); (· simp; done)) | ((with_reducible refine pws_false ?_ ?_); (· simp; done)) | with_reducible refine blk_normal ?_ | with_reducible refine thenQ_normal ?_ | with_reducible refine pws_nil ?_ | ((with_reducible refine pwl_callk (c := ?_) (x := ?_) (f := ?_) (svs := ?_) (cs := ?_) (Qr := ?_) false ?_ ?_ ?_ ?_ ?_ ?_ ?_ ?_ ?_); rotate_left 6; (· (simp [argSlots, *]; done)); (· rfl); (· rfl); (· (simp; with_reducible rfl)); (· (simp; with_reducible rfl)); (· first | (simp [bors, bor]; with_reducible rfl) | (simp [bors, bor, *]; with_reducible rfl)); (· rfl); (· ((with_reducible refine hin))); (rintro sv hsv hsc; clear hsc; obtain rfl := hsv; refine ⟨(by first | (intro _; rfl) | (intro h; cases h)), ?_⟩; refine pwl_runk fun K' S hK' hS => ?_; simp [argSlots, *])) | fail)
          refine hK _ ⟨(k + 1, g1 + 1, g2), by simp; omega⟩ (ent_sub rfl rfl rfl (by simp [SubL, hrs, hps, hhs, *]) (by simp [SubL, hrs, hps, *]) (by simp) (by simp) (by simp [slotsBelow, SV.lo, belowL]) (by simp [heapBelow, ABlk.lo, SV.lo, belowL, slotsBelow])) trivial (by simp; omega)
    · obtain rfl : k = F.length := by omega
      clear hK hd0
      generalize hG1 : restF F L F.length = G1 at *
      generalize hG2 : partF F which F.length = G2 at *
      cases hdl : dangL R G2 with
      | nil =>
        rw [hdl] at hpe hdp
        have hpe := hpe rfl
        rw [hpe]
        clear hdl hpe
        repeat' (first | with_reducible refine pws_seq ?_ | ((with_reducible refine pws_regk fun K' S hK' hS => ?_); simp [argSlots, *]) | ((with_reducible refine Goes.go hK' ?_); clear hK' hS; clear K' S) | ((with_reducible refine GoesS.go hS ?_); clear hK' hS; clear K' S) | ((with_reducible refine pws_false ?_ ?_); (· simp; done)) | with_reducible refine blk_same ?_ | with_reducible refine thenQ_exit ?_ | with_reducible refine pws_exit ?_)
        refine ent_frzs' [.loc 6 0 g1 0 G1.length, .loc 6 1 g2 0 G2.length] ?_
        repeat' (first | ((with_reducible refine Goes.go hK' ?_); clear hK' hS; clear K' S) | ((with_reducible refine GoesS.go hS ?_); clear hK' hS; clear K' S) | with_reducible refine pws_ret ?_ | ((with_reducible refine pwl_callk (c := ?_) (x := ?_) (f := ?_) (svs := ?_) (cs := ?_) (Qr := ?_) false ?_ ?_ ?_ ?_ ?_ ?_ ?_ ?_ ?_); rotate_left 6; (· (simp [argSlots, *]; done)); (· rfl); (· rfl); (· (simp; with_reducible rfl)); (· (simp; with_reducible rfl)); (· first | (simp [bors, bor]; with_reducible rfl) | (simp [bors, bor, *]; with_reducible rfl)); (· rfl); (· ((with_reducible refine hdr))); (rintro sv hsv hsc; clear hsc; obtain rfl := hsv; refine ⟨(by first | (intro _; rfl) | (intro h; cases h)), ?_⟩; refine pwl_runk fun K' S hK' hS => ?_; simp [argSlots, *])) | ((with_reducible refine pwl_callk (c := ?_) (x := ?_) (f := ?_) (svs := ?_) (cs := ?_) (Qr := ?_) false ?_ ?_ ?_ ?_ ?_ ?_ ?_ ?_ ?_); rotate_left 6; (· (simp [argSlots, *]; done)); (· rfl); (· rfl); (· (simp; with_reducible rfl)); (· (simp; with_reducible rfl)); (· first | (simp [bors, bor]; with_reducible rfl) | (simp [bors, bor, *]; with_reducible rfl)); (· rfl); (· ((with_reducible refine hdp))); (rintro sv hsv hsc; clear hsc; obtain rfl := hsv; refine ⟨(by first | (intro _; rfl) | (intro h; cases h)), ?_⟩; refine pwl_runk fun K' S hK' hS => ?_; simp [argSlots, *])) | fail)
        all_goals (refine finC_ret (vs := ?_) [] (by first | exact .inr rfl | exact .inl rfl) rfl ?_ ?_ ?_; rotate_left; (· simp [Tryz.results8, resL, resOf]; rfl); (· first | rfl | (simp [wrapRes, cv, SV.const, constL]; done)); (· first | (simp [wrapRes, cv, *]; done) | (simp [wrapRes, cv, *]; grind) | (simp [wrapRes, cv, *]; omega)))
      | cons x xs =>
        rw [hdl] at hdp
        clear hdl hpe
        generalize hitJ L which F.length = c at *
        repeat' (first | with_reducible refine pws_seq ?_ | ((with_reducible refine pws_regk fun K' S hK' hS => ?_); simp [argSlots, *]) | ((with_reducible refine Goes.go hK' ?_); clear hK' hS; clear K' S) | ((with_reducible refine GoesS.go hS ?_); clear hK' hS; clear K' S) | ((with_reducible refine pws_false ?_ ?_); (· simp; done)) | with_reducible refine blk_same ?_ | with_reducible refine thenQ_exit ?_ | with_reducible refine pws_exit ?_)
        refine ent_frzs' [.loc 6 0 g1 0 G1.length, .loc 6 1 g2 0 G2.length] ?_
        repeat' (first | ((with_reducible refine Goes.go hK' ?_); clear hK' hS; clear K' S) | ((with_reducible refine GoesS.go hS ?_); clear hK' hS; clear K' S) | with_reducible refine pws_ret ?_ | ((with_reducible refine pwl_callk (c := ?_) (x := ?_) (f := ?_) (svs := ?_) (cs := ?_) (Qr := ?_) false ?_ ?_ ?_ ?_ ?_ ?_ ?_ ?_ ?_); rotate_left 6; (· (simp [argSlots, *]; done)); (· rfl); (· rfl); (· (simp; with_reducible rfl)); (· (simp; with_reducible rfl)); (· first | (simp [bors, bor]; with_reducible rfl) | (simp [bors, bor, *]; with_reducible rfl)); (· rfl); (· ((with_reducible refine hdr))); (rintro sv hsv hsc; clear hsc; obtain rfl := hsv; refine ⟨(by first | (intro _; rfl) | (intro h; cases h)), ?_⟩; refine pwl_runk fun K' S hK' hS => ?_; simp [argSlots, *])) | ((with_reducible refine pwl_callk (c := ?_) (x := ?_) (f := ?_) (svs := ?_) (cs := ?_) (Qr := ?_) false ?_ ?_ ?_ ?_ ?_ ?_ ?_ ?_ ?_); rotate_left 6; (· (simp [argSlots, *]; done)); (· rfl); (· rfl); (· (simp; with_reducible rfl)); (· (simp; with_reducible rfl)); (· first | (simp [bors, bor]; with_reducible rfl) | (simp [bors, bor, *]; with_reducible rfl)); (· rfl); (· ((with_reducible refine hdp))); (rintro sv hsv hsc; clear hsc; obtain rfl := hsv; refine ⟨(by first | (intro _; rfl) | (intro h; cases h)), ?_⟩; refine pwl_runk fun K' S hK' hS => ?_; simp [argSlots, *])) | fail)
        all_goals (refine finC_ret (vs := ?_) [] (by first | exact .inr rfl | exact .inl rfl) rfl ?_ ?_ ?_; rotate_left; (· simp [Tryz.results8, resL, resOf]; rfl); (· first | rfl | (simp [wrapRes, cv, SV.const, constL]; done)); (· first | (simp [wrapRes, cv, *]; done) | (simp [wrapRes, cv, *]; grind) | (simp [wrapRes, cv, *]; omega)))
end Go.Proofs.T1
/- The law DenialSupport holds: for every input that the row lets in, the call returns true and each argument reads as before. Its row lists three package-level tables; the card ties them to the program's text. -/
set_option maxRecDepth 100000
namespace Go.Proofs.YtpnpkigicnmopaaGreatDoor
open Go Go.ChangeShapes Go.WideShapes Go.ChangeAt Go.WideMaps Go.WideElems Go.RowKit Go.Vc Go.Proofs.T1
theorem law8_lifted (os : Os) (started : os.Started) (H : Type) (enc : TypeId × Value → H) :
    ReturnsInHanded {} Tryz.checked os 8 .any (fun w args => (Rows.denialSupportSpec.pre enc Tryz.prog Tryz.f8 [] false w args ∧ laidMetH Tryz.prog laid3 w) ∧ sizedMet enc Tryz.prog Tryz.f8 (OpenSpec.ofChange Rows.denialSupportSpec) false w args)
      (Rows.denialSupportSpec.post enc Tryz.prog Tryz.f8 false true false false) := by
  refine returnsInHanded_of_change_and (C := Tryz.checked) (X := fun w _ => laidMetH Tryz.prog laid3 w) (fun _ _ _ hh h => h.of_heap hh) own started (by kernel_rfl) Tryz.func8
    (ChangeSpec.witness_shaped (enc := enc) (C := Tryz.checked) (os := os) (X := fun w _ => laidMetH Tryz.prog laid3 w) false (World.doorLaid Tryz.prog 400 os) #[.slice none 0 0, .slice none 0 0, .slice none 0 0] 8 rfl (World.shaped_of_RefB (by kernel_rfl) (by kernel_rfl)) (by kernel_rfl) (by kernel_rfl) (by kernel_rfl) (door_met os _)) ?_
  intro W base args ds gs before hval0 hW _ _ _ _
  have hval : ∀ (j : Nat) t v, Tryz.f8.params[j]? = some t → args[j]? = some v → Value.okWide Tryz.prog W .any base t v := hval0
  have hW' := hW
  obtain ⟨p, q, hA0, _, _, _, _⟩ := hW
  have hA : DataW.TrodAll enc Tryz.prog W 0 (fun _ => true) true Tryz.f8.params.toList args.toList ds p := hA0
  rw [Tryz.params8] at hA hval
  obtain ⟨v0, vs0, d0, ds0, p0, q0, e0, rfl, rfl, h0, hA0⟩ := trodAll_cons hA
  obtain ⟨v1, vs1, d1, ds1, p1, q1, e1, rfl, rfl, h1, hA1⟩ := trodAll_cons hA0
  subst e1
  obtain ⟨v2, vs2, d2, ds2, p2, q2, e2, rfl, rfl, h2, hA2⟩ := trodAll_cons hA1
  subst e2
  obtain ⟨e3, rfl, rfl⟩ := trodAll_nil hA2
  subst e3
  obtain rfl : args = #[v0, v1, v2] := by rw [← Array.toArray_toList (xs := args), e0]
  obtain ⟨R0, r0⟩ := arg_rules (hval 0 22 v0 rfl rfl) h0
  obtain ⟨F1, r1⟩ := arg_facts (hval 1 23 v1 rfl rfl) h1
  obtain ⟨b2, r2⟩ := arg_bools (hval 2 47 v2 rfl rfl) h2
  refine law_post (svs := [.pv (.sl 10 (prules R0)), .pv (.sl 6 (pfacts F1)), .pv (.sl 1 (pbools b2))]) (law8_ok R0 F1 b2) rfl (fun j sv u hj hu => ?_) hW' rfl rfl (by kernel_rfl) (by rw [Tryz.params8]; kernel_rfl)
  match j with
  | 0 => simp at hj hu; subst hj hu; exact .pv _ _ r0
  | 1 => simp at hj hu; subst hj hu; exact .pv _ _ r1
  | 2 => simp at hj hu; subst hj hu; exact .pv _ _ r2
  | j + 3 => simp at hj
theorem law8_fact9 : (Rows.denialSupportRow.inPlace == Tryz.prog.inPlace 8) = true := by kernel_rfl
theorem law8_fact10 : (Rows.denialSupportRow.unfollowed == Tryz.prog.unfollowed 8) = true := by kernel_rfl
theorem law8_fact11 : (Rows.denialSupportRow.recurses == Tryz.prog.recurses 8) = true := by kernel_rfl
theorem law8_fact12 : (Rows.denialSupportRow.named == Tryz.prog.varsNamed 8) = true := by kernel_rfl
theorem law8_fact16 : (Rows.denialSupportRow.loops == (Tryz.f8.params.toList ++ Rows.denialSupportSpec.plain.varTypes Tryz.prog).any (Tryz.prog.loopsFrom ·)) = true := by kernel_rfl
theorem law8_facts : joinedFacts Tryz.prog 8 Tryz.f8 Rows.denialSupportSpec Rows.denialSupportRow = true :=
  joined (by kernel_rfl) (by kernel_rfl) (by kernel_rfl) (by kernel_rfl) (by kernel_rfl) law8_fact9 law8_fact10 law8_fact11 law8_fact12 (by kernel_rfl) (by kernel_rfl) (by kernel_rfl) law8_fact16 (by kernel_rfl) (by kernel_rfl) (by kernel_rfl) (by kernel_rfl) (by kernel_rfl) (by kernel_rfl) (by kernel_rfl) rfl rfl (by kernel_rfl) (by kernel_rfl) (by kernel_rfl) (by kernel_rfl)
theorem law8_named : Tryz.prog.funcNamed "cleanse/cleanselaw25.DenialSupport" = some 8 := by kernel_rfl
theorem law8_plain : Tryz.f8.isInstance Tryz.prog Rows.denialSupportRow.origin Rows.denialSupportRow.targs := of_decide_eq_true (by kernel_rfl)
theorem law8_own : Tryz.f8.isWrapper Tryz.prog Rows.denialSupportRow.wrapper Rows.denialSupportRow.mainSum := by
  unfold Func.isWrapper; first | (rw [if_pos (by decide +kernel)]; kernel_rfl) | (rw [if_neg (by decide +kernel)]; exact ⟨rfl, rfl⟩)
theorem law8_goes : false = Rows.denialSupportRow.goesBy Tryz.prog := by kernel_rfl
theorem law8_text : Rows.denialSupportRow.wfByText (OpenSpec.ofChange Rows.denialSupportSpec) = true := by kernel_rfl
theorem law8_said : Rows.DenialSupportSaid :=
  OpenClaim.holds_of_wide 8 Tryz.f8 rfl rfl rfl rfl rfl rfl rfl ⟨rfl, rfl, rfl, rfl, rfl⟩ rfl rfl rfl rfl rfl law8_named Tryz.func8 law8_facts law8_plain law8_own
    (fun os started H enc _ => law8_lifted os started H enc)
theorem law8_holds : Rows.DenialSupportCardSaid :=
  Claim7.holds_tied_plain_at .later [] [.data, .data, .data] true (true, "49c22cd40531e0a5935ea59eb1785f2fd0eb702db4aed61b97646984eda5cce0") true
    law8_said (fun _ h => by cases h) law8_text (fun _ h => by cases h) denialSupport_row_tie rfl ⟨rfl, rfl⟩ tryz_main rfl
    (fun f fn hf hfn => by
      obtain rfl : f = 8 := (Option.some.inj (law8_named.symm.trans hf)).symm
      obtain rfl : fn = Tryz.f8 := (Option.some.inj (Tryz.func8.symm.trans hfn)).symm
      exact ⟨tryz_looks, fun j t ht => by
        rw [Tryz.params8] at ht
        have hm : t ∈ [22, 23, 47] := by simpa using Array.mem_of_getElem? ht
        have hall : ([22, 23, 47].all fun u => !Tryz.prog.wantsStandIn u) = true := by kernel_rfl
        exact (show Tryz.prog.wantsStandIn t = false by simpa using List.all_eq_true.1 hall t hm)⟩)
    law8_goes
end Go.Proofs.YtpnpkigicnmopaaGreatDoor
