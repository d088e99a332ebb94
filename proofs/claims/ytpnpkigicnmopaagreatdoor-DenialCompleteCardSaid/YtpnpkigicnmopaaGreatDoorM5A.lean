import Derived.Test.YtpnpkigicnmopaaGreatDoorL9E
import Derived.RangeFuncLeaves
import Derived.RangeFuncNested
import Derived.Maps.AppendAt
import Derived.TacticsIn
import Derived.Laws.CopyRow
import Derived.Deep.OwnRows
import Derived.Maps.RangeRun
import Derived.Test.YtpnpkigicnmopaaGreatDoorProg
import Derived.KernelRfl
import Derived.Carry
import Derived.ChangeArms
import Derived.ChangeOld
import Derived.DataElems
import Derived.DataReads
import Derived.RowKit
import Derived.ChangeSame
import Derived.Laws.StructEq
import Derived.Lib.SliceRun
import Derived.Ground.NamesProg
import Derived.Shelf.Sort.Plain
import Derived.Lib.AppendStr
import Derived.Laws.Append
import Derived.Laws.IdiomStrings
import Derived.Ground.SlsfProg
import Derived.Shelf.SlSortCmp.Whole1
import Derived.Shelf.SlSortCmp.NoneTotal
import Derived.Test.YtpnpkigicnmopaaGreatDoorTie
import Derived.Test.YtpnpkigicnmopaaGreatDoorCards
import Derived.ProofKit
import Derived.LaidMore
import Derived.OpenShut
import Derived.Stop.Joined
import Derived.SevenTiedAt
/- The law DenialComplete holds: for every input that its row lets in, the call returns true and each argument reads as before. The row lists three package-level tables, which the card ties to the program's text. -/
set_option linter.unusedVariables false
set_option linter.unusedSimpArgs false
set_option linter.unnecessarySimpa false
set_option linter.all false
namespace Go.Proofs.T1
open Go.Vc
open Tryz
set_option linter.unusedSimpArgs false
set_option linter.unusedVariables false
set_option maxHeartbeats 4000000
set_option maxRecDepth 20000
attribute [local simp] runD_nil runD_cons runDO runDG runDV stabs stabO stabG runK_nil runK_cons runG_t runG_f runS_some runS_none gate dstOf step2 step1 vq vop vlook mput mfind isKeyB keq fin1 hbox halloc hstore hbuild hbuildSlice happend hmake vslice bound vbuild partsOf elemsOf inOrder topvs toPV svCells splice srcOf isNil St.ev St.evs St.fits St.put St.new St.upd St.frzs St.frz lk hset litOf vbuiltin vlen vbin vindex vfield vload rdc pvs capsOf Value.oneCell'
attribute [local simp] tsz3 tagg3 tbytes3 tint3 tzero3 tzero1_3 tsz4 tagg4 tbytes4 tbool4 tzero4 tzero1_4 tsz5 tagg5 tbytes5 tint5 tzero5 tzero1_5 tsz9 tagg9 tbytes9 tstr9 tzero9 tzero1_9 tsz22 tagg22 tel22 tbytes22 tzero22 tzero1_22 tsz23 tagg23 tel23 tbytes23 tzero23 tzero1_23 tsz24 tagg24 tel24 tbytes24 tzero24 tzero1_24 tsz25 tagg25 tbytes25 tzero25 tzero1_25 tsz29 tagg29 tel29 tbytes29 tzero29 tzero1_29 tsz30 tagg30 tel30 tbytes30 tzero30 tzero1_30 tsz32 tagg32 tbytes32 tzero32 foff32_0 foff32_1 foff32_2 foff32_3 foff32_4 foff32_5 foff32_6 foff32_7 foff32_8 foff32_9 tsz33 tagg33 tel33 tbytes33 tzero33 tzero1_33 tsz34 tagg34 tbytes34 tint34 tzero34 tzero1_34 tsz38 tagg38 tbytes38 tzero38 foff38_0 foff38_1 foff38_2 tsz47 tagg47 tel47 tbytes47 tzero47 tzero1_47 tsz52 tagg52 tel52 tbytes52 tzero52 tzero1_52 tsz54 tagg54 tbytes54 tzero54 foff54_0 foff54_1 foff54_2 foff54_3 foff54_4 foff54_5 tsz79 tagg79 tbytes79 tzero79 foff79_0 foff79_1 foff79_2 tsz117 tagg117 tbytes117 tzero117 foff117_0 foff117_1 foff117_2 tsz119 tagg119 tbytes119 tzero119 foff119_0 foff119_1 tsz121 tagg121 tbytes121 tzero121 foff121_0 foff121_1 foff121_2 foff121_3 tsz129 tagg129 tbytes129 tzero129 tzero1_129 tsz130 tagg130 tbytes130 tzero130 tzero1_130 tsz132 tagg132 tbytes132 tzero132 tzero1_132 tsz206 tagg206 tbytes206 tzero206 tzero1_206 mtype206 tsz208 tagg208 tbytes208 tsz217 tagg217 tel217 tbytes217 tzero217 tzero1_217 tsz220 tagg220 tbytes220 tzero220 foff220_0 foff220_1 tsz235 tagg235 tel235 tbytes235 tzero235 tzero1_235 tsz256 tagg256 tbytes256 tzero256 tzero1_256 mtype256 tsz351 tagg351 tbytes351 tzero351 tsz2 tagg2 tbytes2 tint2 tzero2 tzero1_2 tsz291 tagg291 tbytes291 tint291 tzero291 tzero1_291 sized32 places32_0 places32_1 places32_2 places32_3 places32_4 places32_5 places32_6 places32_7 places32_8 places32_9 sized38 places38_0 places38_1 places38_2 sized54 places54_0 places54_1 places54_2 places54_3 places54_4 places54_5 sized79 places79_0 places79_1 places79_2 sized117 places117_0 places117_1 places117_2 sized119 places119_0 places119_1 sized121 places121_0 places121_1 places121_2 places121_3 sized220 places220_0 places220_1
theorem enters42 : Enters Tryz.prog 42 := enters_mk Tryz.func42 (by kernel_rfl) (by kernel_rfl)
theorem enters96 : Enters Tryz.prog 96 := enters_mk Tryz.func96 (by kernel_rfl) (by kernel_rfl)
theorem any_end {α : Type} (p : α → Bool) {l : List α} {k : Nat} (h : ¬ k < l.length) : (l.drop k).any p = false := by rw [List.drop_of_length_le (by omega)]; rfl
theorem In_ok (xs : List Int) (n : Int) : CC Tryz.prog 42 [.pv (.sl 1 (ints xs)), sint n] (fun sv => sv = sbool (isIn xs n)) := by
  refine cc_of_pw Tryz.func42 rfl enters42 Tryz.ntmps42 (by simp) (pw_of_pws ?_)
  refine pws_ent (Ent.refl _) (pws_len (t := 0) (es := 1) (xs := ints xs) rfl fun hx => ?_)
  simp [maxLen] at hx
  repeat' (first | with_reducible refine pws_seq ?_ | with_reducible refine pws_block ?_ | ((with_reducible refine pws_regk fun K' S hK' hS => ?_); simp [argSlots, *]) | ((with_reducible refine Goes.go hK' ?_); clear hK' hS; clear K' S))
  refine pws_loop (α := { k : Nat // k ≤ xs.length }) (fun k => { n := 18, nx := 0, s := [(5, sint k.1), (0, .pv (.sl 1 (ints xs))), (1, sint n)], h := [], d := [] }) (fun k => xs.length - k.1) (fun k => isIn (xs.drop k.1) n = isIn xs n) ⟨0, by omega⟩ (by simp) (ent_sub rfl rfl rfl (by simp [SubL, *]) (by simp [SubL, *]) (by simp) (by simp) (by simp [slotsBelow, SV.lo, belowL]) (by simp [heapBelow, ABlk.lo, SV.lo, belowL, slotsBelow])) ?_; rintro ⟨k, hk⟩ hok K hK; simp only at hok
  by_cases h1 : k < xs.length
  · have hw := wrap64_id (n := (k : Int) + 1) (by omega)
    have hl := any_drop (fun x => decide (x = n)) h1
    rw [show (xs.drop k).any (fun x => decide (x = n)) = isIn xs n from hok] at hl
    by_cases he : xs[k] = n
    · repeat' (first | with_reducible refine pws_seq ?_ | with_reducible refine pws_skip ?_ | with_reducible refine pws_block ?_ | ((with_reducible refine pws_regk fun K' S hK' hS => ?_); simp [argSlots, *]) | ((with_reducible refine Goes.go hK' ?_); clear hK' hS; clear K' S) | ((with_reducible refine pws_true ?_ ?_); (· simp; done)) | with_reducible refine pws_ret ?_ | with_reducible refine blk_ret ?_ | with_reducible refine thenQ_ret ?_)
      all_goals (refine finC_ret (vs := ?_) [] (by first | exact .inr rfl | exact .inl rfl) rfl ?_ ?_ ?_; rotate_left; (· simp [Tryz.results42, resL, resOf]; rfl); (· first | rfl | (simp [wrapRes, cv, SV.const, constL]; done)); (· first | (simp [wrapRes, cv, *]; done) | (simp [wrapRes, cv, *]; grind) | (simp [wrapRes, cv, *]; omega)))
    · repeat' (first | with_reducible refine pws_seq ?_ | with_reducible refine pws_skip ?_ | with_reducible refine pws_block ?_ | ((with_reducible refine pws_regk fun K' S hK' hS => ?_); simp [argSlots, *]) | ((with_reducible refine Goes.go hK' ?_); clear hK' hS; clear K' S) | ((with_reducible refine pws_true ?_ ?_); (· simp; done)) | ((with_reducible refine pws_false ?_ ?_); (· simp; done)) | with_reducible refine blk_normal ?_ | with_reducible refine thenQ_normal ?_ | with_reducible refine pws_nil ?_)
      refine hK _ ⟨k + 1, by omega⟩ (ent_sub rfl rfl rfl (by simp [SubL, *]) (by simp [SubL, *]) (by simp) (by simp) (by simp [slotsBelow, SV.lo, belowL]) (by simp [heapBelow, ABlk.lo, SV.lo, belowL, slotsBelow])) ?_ (by simp; omega)
      rw [hl]
      simp [isIn, he]
  · have hl := any_end (fun x => decide (x = n)) h1
    rw [show (xs.drop k).any (fun x => decide (x = n)) = isIn xs n from hok] at hl
    repeat' (first | with_reducible refine pws_seq ?_ | ((with_reducible refine pws_regk fun K' S hK' hS => ?_); simp [argSlots, *]) | ((with_reducible refine Goes.go hK' ?_); clear hK' hS; clear K' S) | ((with_reducible refine pws_false ?_ ?_); (· simp; done)) | with_reducible refine pws_ret ?_ | with_reducible refine blk_same ?_ | with_reducible refine thenQ_exit ?_ | with_reducible refine pws_exit ?_)
    all_goals (refine finC_ret (vs := ?_) [] (by first | exact .inr rfl | exact .inl rfl) rfl ?_ ?_ ?_; rotate_left; (· simp [Tryz.results42, resL, resOf]; rfl); (· first | rfl | (simp [wrapRes, cv, SV.const, constL]; done)); (· first | (simp [wrapRes, cv, *]; done) | (simp [wrapRes, cv, *]; grind) | (simp [wrapRes, cv, *]; omega)))
theorem contains_ok (xs ys : List Int) : CC Tryz.prog 96 [.pv (.sl 1 (ints xs)), .pv (.sl 1 (ints ys))] (fun sv => sv = sbool (hasAll xs ys)) := by
  refine cc_of_pw Tryz.func96 rfl enters96 Tryz.ntmps96 (by simp) (pw_of_pws ?_)
  refine pws_ent (Ent.refl _) (pws_len (t := 1) (es := 1) (xs := ints ys) rfl fun hx => ?_)
  simp [maxLen] at hx
  repeat' (first | with_reducible refine pws_seq ?_ | with_reducible refine pws_block ?_ | ((with_reducible refine pws_regk fun K' S hK' hS => ?_); simp [argSlots, *]) | ((with_reducible refine Goes.go hK' ?_); clear hK' hS; clear K' S))
  refine pws_loop (α := { k : Nat // k ≤ ys.length }) (fun k => { n := 19, nx := 0, s := [(5, sint k.1), (0, .pv (.sl 1 (ints xs))), (1, .pv (.sl 1 (ints ys)))], h := [], d := [] }) (fun k => ys.length - k.1) (fun k => hasAll xs (ys.drop k.1) = hasAll xs ys) ⟨0, by omega⟩ (by simp) (ent_sub rfl rfl rfl (by simp [SubL, *]) (by simp [SubL, *]) (by simp) (by simp) (by simp [slotsBelow, SV.lo, belowL]) (by simp [heapBelow, ABlk.lo, SV.lo, belowL, slotsBelow])) ?_; rintro ⟨k, hk⟩ hok K hK; simp only at hok
  by_cases h1 : k < ys.length
  · have hw := wrap64_id (n := (k : Int) + 1) (by omega)
    have hl := all_drop (isIn xs) h1
    rw [show (ys.drop k).all (isIn xs) = hasAll xs ys from hok] at hl
    by_cases he : isIn xs ys[k] = true
    · repeat' (first | with_reducible refine pws_seq ?_ | with_reducible refine pws_skip ?_ | with_reducible refine pws_block ?_ | ((with_reducible refine pws_regk fun K' S hK' hS => ?_); simp [argSlots, *]) | ((with_reducible refine Goes.go hK' ?_); clear hK' hS; clear K' S) | ((with_reducible refine GoesS.go hS ?_); clear hK' hS; clear K' S) | ((with_reducible refine pws_true ?_ ?_); (· simp; done)) | ((with_reducible refine pws_false ?_ ?_); (· simp; done)) | with_reducible refine blk_normal ?_ | with_reducible refine thenQ_normal ?_ | with_reducible refine pws_nil ?_ | ((with_reducible refine pwl_callk (c := ?_) (x := ?_) (f := ?_) (svs := ?_) (cs := ?_) (Qr := ?_) true ?_ ?_ ?_ ?_ ?_ ?_ ?_ ?_ ?_); rotate_left 6; (· (simp [argSlots, *]; done)); (· rfl); (· rfl); (· (simp; with_reducible rfl)); (· (simp; with_reducible rfl)); (· first | (simp [bors, bor]; with_reducible rfl) | (simp [bors, bor, *]; with_reducible rfl)); (· rfl); (· ((with_reducible refine In_ok _ _))); (rintro sv hsv hsc; clear hsc; obtain rfl := hsv; refine ⟨(by first | (intro _; rfl) | (intro h; cases h)), ?_⟩; refine pwl_runk fun K' S hK' hS => ?_; simp [argSlots, *])) | fail)
      refine hK _ ⟨k + 1, by omega⟩ (ent_sub rfl rfl rfl (by simp [SubL, *]) (by simp [SubL, *]) (by simp) (by simp) (by simp [slotsBelow, SV.lo, belowL]) (by simp [heapBelow, ABlk.lo, SV.lo, belowL, slotsBelow])) ?_ (by simp; omega)
      rw [hl]
      simp [hasAll, he]
    · repeat' (first | with_reducible refine pws_seq ?_ | with_reducible refine pws_skip ?_ | with_reducible refine pws_block ?_ | ((with_reducible refine pws_regk fun K' S hK' hS => ?_); simp [argSlots, *]) | ((with_reducible refine Goes.go hK' ?_); clear hK' hS; clear K' S) | ((with_reducible refine GoesS.go hS ?_); clear hK' hS; clear K' S) | ((with_reducible refine pws_true ?_ ?_); (· simp; done)) | with_reducible refine pws_ret ?_ | with_reducible refine blk_ret ?_ | with_reducible refine thenQ_ret ?_ | ((with_reducible refine pwl_callk (c := ?_) (x := ?_) (f := ?_) (svs := ?_) (cs := ?_) (Qr := ?_) true ?_ ?_ ?_ ?_ ?_ ?_ ?_ ?_ ?_); rotate_left 6; (· (simp [argSlots, *]; done)); (· rfl); (· rfl); (· (simp; with_reducible rfl)); (· (simp; with_reducible rfl)); (· first | (simp [bors, bor]; with_reducible rfl) | (simp [bors, bor, *]; with_reducible rfl)); (· rfl); (· ((with_reducible refine In_ok _ _))); (rintro sv hsv hsc; clear hsc; obtain rfl := hsv; refine ⟨(by first | (intro _; rfl) | (intro h; cases h)), ?_⟩; refine pwl_runk fun K' S hK' hS => ?_; simp [argSlots, *])) | fail)
      all_goals (refine finC_ret (vs := ?_) [] (by first | exact .inr rfl | exact .inl rfl) rfl ?_ ?_ ?_; rotate_left; (· simp [Tryz.results96, resL, resOf]; rfl); (· first | rfl | (simp [wrapRes, cv, SV.const, constL]; done)); (· first | (simp [wrapRes, cv, *]; done) | (simp [wrapRes, cv, *]; grind) | (simp [wrapRes, cv, *]; omega)))
  · have hl := all_end (isIn xs) h1
    rw [show (ys.drop k).all (isIn xs) = hasAll xs ys from hok] at hl
    repeat' (first | with_reducible refine pws_seq ?_ | ((with_reducible refine pws_regk fun K' S hK' hS => ?_); simp [argSlots, *]) | ((with_reducible refine Goes.go hK' ?_); clear hK' hS; clear K' S) | ((with_reducible refine pws_false ?_ ?_); (· simp; done)) | with_reducible refine pws_ret ?_ | with_reducible refine blk_same ?_ | with_reducible refine thenQ_exit ?_ | with_reducible refine pws_exit ?_)
    all_goals (refine finC_ret (vs := ?_) [] (by first | exact .inr rfl | exact .inl rfl) rfl ?_ ?_ ?_; rotate_left; (· simp [Tryz.results96, resL, resOf]; rfl); (· first | rfl | (simp [wrapRes, cv, SV.const, constL]; done)); (· first | (simp [wrapRes, cv, *]; done) | (simp [wrapRes, cv, *]; grind) | (simp [wrapRes, cv, *]; omega)))
end Go.Proofs.T1
namespace Go.Proofs.T1
open Go.Vc
theorem hasAll_iff {a b : List Int} : hasAll a b = true ↔ ∀ x ∈ b, x ∈ a := by
  unfold hasAll
  rw [List.all_eq_true]
  exact ⟨fun h x hx => isIn_iff.1 (h x hx), fun h x hx => isIn_iff.2 (h x hx)⟩
theorem nodup_len_eq {l m : List Int} (hl : l.Nodup) (hs : ∀ x ∈ l, x ∈ m) (hm : m.length ≤ l.length) : ∀ x ∈ m, x ∈ l := fun x hx => by
  by_cases h : x ∈ l
  · exact h
  · have := nodup_len (l := x :: l) (m := m) (List.nodup_cons.2 ⟨h, hl⟩) fun y hy => by
      rcases List.mem_cons.1 hy with e | e
      · exact e ▸ hx
      · exact hs y e
    simp at this
    omega
theorem bad_pos {R : List Rl} {F : List Fc} {s : List Int} (hs : s.Nodup) (h : BadP R F s) : 0 < s.length := by
  obtain ⟨t, ht, h1, h2, _⟩ := bad_small hs h
  have := nodup_len ht.nodup h1
  omega
/-- Each bad set has a least one. -/
theorem exists_minBad {R : List Rl} {F : List Fc} : ∀ (n : Nat) {s : List Int}, s.length ≤ n → SetP s F.length → BadP R F s → ∃ t, MinBad R F t ∧ ∀ x ∈ t, x ∈ s
  | 0, s, hn, hs, hb => by
    have := bad_pos (setP_iff.1 hs).1.nodup hb
    omega
  | n + 1, s, hn, hs, hb => by
    by_cases h : ∃ t, Inc t ∧ (∀ x ∈ t, x ∈ s) ∧ BadP R F t ∧ t ≠ s
    · obtain ⟨t, t1, t2, t3, t4⟩ := h
      have hs' := setP_iff.1 hs
      have ht : SetP t F.length := setP_iff.2 ⟨t1, fun x hx => hs'.2 x (t2 x hx)⟩
      have hlt : t.length < s.length := by
        have h1 := nodup_len t1.nodup t2
        by_cases e : s.length ≤ t.length
        · exact absurd (inc_ext t1 hs'.1 fun x => ⟨t2 x, nodup_len_eq t1.nodup t2 e x⟩) t4
        · omega
      obtain ⟨u, u1, u2⟩ := exists_minBad n (s := t) (by omega) ht t3
      exact ⟨u, u1, fun x hx => t2 x (u2 x hx)⟩
    · refine ⟨s, ⟨hs, hb, fun t t1 t2 t3 => ?_⟩, fun x hx => hx⟩
      by_cases e : t = s
      · exact e
      · exact absurd ⟨t, t1, t2, t3, e⟩ h
theorem bad_iff_min {R : List Rl} {F : List Fc} {s : List Int} (hs : SetP s F.length) : BadP R F s ↔ ∃ t, MinBad R F t ∧ ∀ x ∈ t, x ∈ s := by
  constructor
  · exact fun h => exists_minBad _ (Nat.le_refl _) hs h
  · rintro ⟨t, ⟨h1, h2, _⟩, h3⟩
    exact bad_mono (setP_iff.1 h1).1.nodup (setP_iff.1 hs).1.nodup h3 h2
end Go.Proofs.T1
namespace Go.Proofs.T1
open Go.Vc
theorem cons_contains {R : List Rl} {F : List Fc} {s : List Int} (hs : SetP s F.length) : (violL R F).any (hasAll s) = !consL R F s := by
  rw [Bool.eq_iff_iff, List.any_eq_true, Bool.not_eq_true']
  constructor
  · rintro ⟨t, ht, h⟩
    exact consL_false ((bad_iff_min hs).2 ⟨t, mem_violL.1 ht, hasAll_iff.1 h⟩)
  · intro h
    have hb : BadP R F s := Classical.byContradiction fun hn => by rw [consL_iff.2 ⟨hs, hn⟩] at h; cases h
    obtain ⟨t, h1, h2⟩ := (bad_iff_min hs).1 hb
    exact ⟨t, mem_violL.2 h1, hasAll_iff.2 h2⟩
theorem parts_lt {s p : List Int} (h : p ∈ parts s) : p.length < s.length := by
  unfold parts at h
  split at h
  · simp at h
    rcases h with rfl | rfl <;> simp
  · simp at h
    rcases h with rfl | rfl | rfl | rfl | rfl | rfl <;> simp
  · simp at h
theorem minL_below {sets : List (List Int)} (hi : ∀ s ∈ sets, Inc s) : ∀ (n : Nat) {s : List Int}, s.length ≤ n → s ∈ sets → ∃ m ∈ minL sets, ∀ x ∈ m, x ∈ s
  | n, s, hn, hs => by
    by_cases h : ∃ p ∈ parts s, p ∈ sets
    · obtain ⟨p, hp, hps⟩ := h
      have hlt := parts_lt hp
      match n, hn with
      | 0, hn => omega
      | n + 1, hn =>
        obtain ⟨m, h1, h2⟩ := minL_below hi n (s := p) (by omega) hps
        exact ⟨m, h1, fun x hx => (parts_sub (hi s hs) hp).2.1 x (h2 x hx)⟩
    · exact ⟨s, ((minL_ok sets).2 s).2 ⟨hs, fun p hp hps => h ⟨p, hp, hps⟩⟩, fun x hx => hx⟩
theorem edge_contains {R : List Rl} {F : List Fc} {s : List Int} (hs : SetP s F.length) : (edgeL R F).any (hasAll s) = (!consL R F s || (dangL R F).any (isIn s)) := by
  have hi : ∀ t ∈ singles (dangL R F) ++ violL R F, Inc t := by
    intro t ht
    rcases List.mem_append.1 ht with h | h
    · unfold singles at h
      obtain ⟨x, _, rfl⟩ := List.mem_map.1 h
      simp
    · exact (setP_iff.1 (mem_violL.1 h).1).1
  rw [← cons_contains hs, Bool.eq_iff_iff, Bool.or_eq_true, List.any_eq_true, List.any_eq_true, List.any_eq_true]
  constructor
  · rintro ⟨t, ht, h⟩
    rcases List.mem_append.1 (((minL_ok _).2 t).1 ht).1 with h1 | h1
    · unfold singles at h1
      obtain ⟨x, hx, rfl⟩ := List.mem_map.1 h1
      exact .inr ⟨x, hx, isIn_iff.2 (hasAll_iff.1 h x (by simp))⟩
    · exact .inl ⟨t, h1, h⟩
  · rintro (⟨t, ht, h⟩ | ⟨x, hx, h⟩)
    · obtain ⟨m, h1, h2⟩ := minL_below hi _ (Nat.le_refl _) (List.mem_append.2 (.inr ht))
      exact ⟨m, h1, hasAll_iff.2 fun x hx => hasAll_iff.1 h x (h2 x hx)⟩
    · obtain ⟨m, h1, h2⟩ := minL_below hi _ (Nat.le_refl _) (List.mem_append.2 (Or.inl (List.mem_map.2 ⟨x, hx, rfl⟩)) : [x] ∈ singles (dangL R F) ++ violL R F)
      refine ⟨m, h1, hasAll_iff.2 fun y hy => ?_⟩
      obtain rfl : y = x := by simpa using h2 y hy
      exact isIn_iff.1 h
end Go.Proofs.T1
namespace Go.Proofs.T1
open Go.Vc
open Tryz
set_option linter.unusedSimpArgs false
set_option linter.unusedVariables false
set_option maxHeartbeats 4000000
set_option maxRecDepth 20000
attribute [local simp] runD_nil runD_cons runDO runDG runDV stabs stabO stabG runK_nil runK_cons runG_t runG_f runS_some runS_none gate dstOf step2 step1 vq vop vlook mput mfind isKeyB keq fin1 hbox halloc hstore hbuild hbuildSlice happend hmake vslice bound vbuild partsOf elemsOf inOrder topvs toPV svCells splice srcOf isNil St.ev St.evs St.fits St.put St.new St.upd St.frzs St.frz lk hset litOf vbuiltin vlen vbin vindex vfield vload rdc pvs capsOf Value.oneCell'
attribute [local simp] tsz3 tagg3 tbytes3 tint3 tzero3 tzero1_3 tsz4 tagg4 tbytes4 tbool4 tzero4 tzero1_4 tsz5 tagg5 tbytes5 tint5 tzero5 tzero1_5 tsz9 tagg9 tbytes9 tstr9 tzero9 tzero1_9 tsz22 tagg22 tel22 tbytes22 tzero22 tzero1_22 tsz23 tagg23 tel23 tbytes23 tzero23 tzero1_23 tsz24 tagg24 tel24 tbytes24 tzero24 tzero1_24 tsz25 tagg25 tbytes25 tzero25 tzero1_25 tsz29 tagg29 tel29 tbytes29 tzero29 tzero1_29 tsz30 tagg30 tel30 tbytes30 tzero30 tzero1_30 tsz32 tagg32 tbytes32 tzero32 foff32_0 foff32_1 foff32_2 foff32_3 foff32_4 foff32_5 foff32_6 foff32_7 foff32_8 foff32_9 tsz33 tagg33 tel33 tbytes33 tzero33 tzero1_33 tsz34 tagg34 tbytes34 tint34 tzero34 tzero1_34 tsz38 tagg38 tbytes38 tzero38 foff38_0 foff38_1 foff38_2 tsz47 tagg47 tel47 tbytes47 tzero47 tzero1_47 tsz52 tagg52 tel52 tbytes52 tzero52 tzero1_52 tsz54 tagg54 tbytes54 tzero54 foff54_0 foff54_1 foff54_2 foff54_3 foff54_4 foff54_5 tsz79 tagg79 tbytes79 tzero79 foff79_0 foff79_1 foff79_2 tsz117 tagg117 tbytes117 tzero117 foff117_0 foff117_1 foff117_2 tsz119 tagg119 tbytes119 tzero119 foff119_0 foff119_1 tsz121 tagg121 tbytes121 tzero121 foff121_0 foff121_1 foff121_2 foff121_3 tsz129 tagg129 tbytes129 tzero129 tzero1_129 tsz130 tagg130 tbytes130 tzero130 tzero1_130 tsz132 tagg132 tbytes132 tzero132 tzero1_132 tsz206 tagg206 tbytes206 tzero206 tzero1_206 mtype206 tsz208 tagg208 tbytes208 tsz217 tagg217 tel217 tbytes217 tzero217 tzero1_217 tsz220 tagg220 tbytes220 tzero220 foff220_0 foff220_1 tsz235 tagg235 tel235 tbytes235 tzero235 tzero1_235 tsz256 tagg256 tbytes256 tzero256 tzero1_256 mtype256 tsz351 tagg351 tbytes351 tzero351 tsz2 tagg2 tbytes2 tint2 tzero2 tzero1_2 tsz291 tagg291 tbytes291 tint291 tzero291 tzero1_291 sized32 places32_0 places32_1 places32_2 places32_3 places32_4 places32_5 places32_6 places32_7 places32_8 places32_9 sized38 places38_0 places38_1 places38_2 sized54 places54_0 places54_1 places54_2 places54_3 places54_4 places54_5 sized79 places79_0 places79_1 places79_2 sized117 places117_0 places117_1 places117_2 sized119 places119_0 places119_1 sized121 places121_0 places121_1 places121_2 places121_3 sized220 places220_0 places220_1
attribute [local simp] V.c V.z Sd.c Tst.c Fx.c Rl.c Fc.c Gr.c wrap1f take_map_len take_map_len1 wrap1 wrap2 wrap3
theorem enters41 : Enters Tryz.prog 41 := enters_mk Tryz.func41 (by kernel_rfl) (by kernel_rfl)
theorem lContains_ok (l : List (List Int)) (s : List Int) : CC Tryz.prog 41 [.pv (.sl 1 (psets l)), .pv (.sl 1 (ints s))] (fun sv => sv = sbool (l.any (hasAll s))) := by
  refine cc_of_pw Tryz.func41 rfl enters41 Tryz.ntmps41 (by simp) (pw_of_pws ?_)
  refine pws_ent (Ent.refl _) (pws_len (t := 0) (es := 1) (xs := psets l) rfl fun hx => ?_)
  simp [maxLen] at hx
  repeat' (first | with_reducible refine pws_seq ?_ | with_reducible refine pws_block ?_ | ((with_reducible refine pws_regk fun K' S hK' hS => ?_); simp [argSlots, *]) | ((with_reducible refine Goes.go hK' ?_); clear hK' hS; clear K' S))
  refine pws_loop (α := { k : Nat // k ≤ l.length }) (fun k => { n := 18, nx := 0, s := [(5, sint k.1), (0, .pv (.sl 1 (psets l))), (1, .pv (.sl 1 (ints s)))], h := [], d := [] }) (fun k => l.length - k.1) (fun k => ∀ i (h : i < l.length), i < k.1 → hasAll s l[i] = false) ⟨0, by omega⟩ (by simp) (ent_sub rfl rfl rfl (by simp [SubL, *]) (by simp [SubL, *]) (by simp) (by simp) (by simp [slotsBelow, SV.lo, belowL]) (by simp [heapBelow, ABlk.lo, SV.lo, belowL, slotsBelow])) ?_
  rintro ⟨k, hk⟩ hok K hK
  simp only at hok
  by_cases h1 : k < l.length
  · have hw := wrap64_id (n := (k : Int) + 1) (by omega)
    cases hb : hasAll s l[k] with
    | true =>
      have ha : l.any (hasAll s) = true := List.any_eq_true.2 ⟨_, List.getElem_mem h1, hb⟩
      clear hok hx
      repeat' (first | with_reducible refine pws_seq ?_ | with_reducible refine pws_skip ?_ | with_reducible refine pws_block ?_ | ((with_reducible refine pws_regk fun K' S hK' hS => ?_); simp [argSlots, *]) | ((with_reducible refine Goes.go hK' ?_); clear hK' hS; clear K' S) | ((with_reducible refine GoesS.go hS ?_); clear hK' hS; clear K' S) | ((with_reducible refine pws_true ?_ ?_); (· simp; done)) | with_reducible refine pws_ret ?_ | with_reducible refine blk_ret ?_ | with_reducible refine thenQ_ret ?_ | ((with_reducible refine pwl_callk (c := ?_) (x := ?_) (f := ?_) (svs := ?_) (cs := ?_) (Qr := ?_) true ?_ ?_ ?_ ?_ ?_ ?_ ?_ ?_ ?_); rotate_left 6; (· (simp [argSlots, *]; done)); (· rfl); (· rfl); (· (simp; with_reducible rfl)); (· (simp; with_reducible rfl)); (· first | (simp [bors, bor]; with_reducible rfl) | (simp [bors, bor, *]; with_reducible rfl)); (· rfl); (· ((with_reducible refine contains_ok _ _))); (rintro sv hsv hsc; clear hsc; obtain rfl := hsv; refine ⟨(by first | (intro _; rfl) | (intro h; cases h)), ?_⟩; refine pwl_runk fun K' S hK' hS => ?_; simp [argSlots, *])) | fail)
      all_goals (refine finC_ret (vs := ?_) [] (by first | exact .inr rfl | exact .inl rfl) rfl ?_ ?_ ?_; rotate_left; (· simp [Tryz.results41, resL, resOf]; rfl); (· first | rfl | (simp [wrapRes, cv, SV.const, constL]; done)); (· first | (simp [wrapRes, cv, *]; done) | (simp [wrapRes, cv, *]; grind) | (simp [wrapRes, cv, *]; omega)))
    | false =>
      have hok' : ∀ i (h : i < l.length), i < k + 1 → hasAll s l[i] = false := fun i h hi => by
        by_cases e : i = k
        · subst e; exact hb
        · exact hok i h (by omega)
      clear hok hx
      repeat' (first | with_reducible refine pws_seq ?_ | with_reducible refine pws_skip ?_ | with_reducible refine pws_block ?_ | ((with_reducible refine pws_regk fun K' S hK' hS => ?_); simp [argSlots, *]) | ((with_reducible refine Goes.go hK' ?_); clear hK' hS; clear K' S) | ((with_reducible refine GoesS.go hS ?_); clear hK' hS; clear K' S) | ((with_reducible refine pws_true ?_ ?_); (· simp; done)) | ((with_reducible refine pws_false ?_ ?_); (· simp; done)) | with_reducible refine blk_normal ?_ | with_reducible refine thenQ_normal ?_ | with_reducible refine pws_nil ?_ | ((with_reducible refine pwl_callk (c := ?_) (x := ?_) (f := ?_) (svs := ?_) (cs := ?_) (Qr := ?_) true ?_ ?_ ?_ ?_ ?_ ?_ ?_ ?_ ?_); rotate_left 6; (· (simp [argSlots, *]; done)); (· rfl); (· rfl); (· (simp; with_reducible rfl)); (· (simp; with_reducible rfl)); (· first | (simp [bors, bor]; with_reducible rfl) | (simp [bors, bor, *]; with_reducible rfl)); (· rfl); (· ((with_reducible refine contains_ok _ _))); (rintro sv hsv hsc; clear hsc; obtain rfl := hsv; refine ⟨(by first | (intro _; rfl) | (intro h; cases h)), ?_⟩; refine pwl_runk fun K' S hK' hS => ?_; simp [argSlots, *])) | fail)
      refine hK _ ⟨k + 1, by omega⟩ (ent_sub rfl rfl rfl (by simp [SubL, *]) (by simp [SubL, *]) (by simp) (by simp) (by simp [slotsBelow, SV.lo, belowL]) (by simp [heapBelow, ABlk.lo, SV.lo, belowL, slotsBelow])) hok' (by simp; omega)
  · have ha : l.any (hasAll s) = false := List.any_eq_false.2 fun x hxm => by
      obtain ⟨i, hi, rfl⟩ := List.mem_iff_getElem.1 hxm
      simp [hok i hi (by omega)]
    clear hok hK hx
    repeat' (first | with_reducible refine pws_seq ?_ | ((with_reducible refine pws_regk fun K' S hK' hS => ?_); simp [argSlots, *]) | ((with_reducible refine Goes.go hK' ?_); clear hK' hS; clear K' S) | ((with_reducible refine pws_false ?_ ?_); (· simp; done)) | with_reducible refine pws_ret ?_ | with_reducible refine blk_same ?_ | with_reducible refine thenQ_exit ?_ | with_reducible refine pws_exit ?_)
    all_goals (refine finC_ret (vs := ?_) [] (by first | exact .inr rfl | exact .inl rfl) rfl ?_ ?_ ?_; rotate_left; (· simp [Tryz.results41, resL, resOf]; rfl); (· first | rfl | (simp [wrapRes, cv, SV.const, constL]; done)); (· first | (simp [wrapRes, cv, *]; done) | (simp [wrapRes, cv, *]; grind) | (simp [wrapRes, cv, *]; omega)))
end Go.Proofs.T1
namespace Go.Proofs.T1
open Go.Vc
open Tryz
set_option linter.unusedSimpArgs false
set_option linter.unusedVariables false
set_option maxHeartbeats 4000000
set_option maxRecDepth 20000
attribute [local simp] runD_nil runD_cons runDO runDG runDV stabs stabO stabG runK_nil runK_cons runG_t runG_f runS_some runS_none gate dstOf step2 step1 vq vop vlook mput mfind isKeyB keq fin1 hbox halloc hstore hbuild hbuildSlice happend hmake vslice bound vbuild partsOf elemsOf inOrder topvs toPV svCells splice srcOf isNil St.ev St.evs St.fits St.put St.new St.upd St.frzs St.frz lk hset litOf vbuiltin vlen vbin vindex vfield vload rdc pvs capsOf Value.oneCell'
attribute [local simp] tsz3 tagg3 tbytes3 tint3 tzero3 tzero1_3 tsz4 tagg4 tbytes4 tbool4 tzero4 tzero1_4 tsz5 tagg5 tbytes5 tint5 tzero5 tzero1_5 tsz9 tagg9 tbytes9 tstr9 tzero9 tzero1_9 tsz22 tagg22 tel22 tbytes22 tzero22 tzero1_22 tsz23 tagg23 tel23 tbytes23 tzero23 tzero1_23 tsz24 tagg24 tel24 tbytes24 tzero24 tzero1_24 tsz25 tagg25 tbytes25 tzero25 tzero1_25 tsz29 tagg29 tel29 tbytes29 tzero29 tzero1_29 tsz30 tagg30 tel30 tbytes30 tzero30 tzero1_30 tsz32 tagg32 tbytes32 tzero32 foff32_0 foff32_1 foff32_2 foff32_3 foff32_4 foff32_5 foff32_6 foff32_7 foff32_8 foff32_9 tsz33 tagg33 tel33 tbytes33 tzero33 tzero1_33 tsz34 tagg34 tbytes34 tint34 tzero34 tzero1_34 tsz38 tagg38 tbytes38 tzero38 foff38_0 foff38_1 foff38_2 tsz47 tagg47 tel47 tbytes47 tzero47 tzero1_47 tsz52 tagg52 tel52 tbytes52 tzero52 tzero1_52 tsz54 tagg54 tbytes54 tzero54 foff54_0 foff54_1 foff54_2 foff54_3 foff54_4 foff54_5 tsz79 tagg79 tbytes79 tzero79 foff79_0 foff79_1 foff79_2 tsz117 tagg117 tbytes117 tzero117 foff117_0 foff117_1 foff117_2 tsz119 tagg119 tbytes119 tzero119 foff119_0 foff119_1 tsz121 tagg121 tbytes121 tzero121 foff121_0 foff121_1 foff121_2 foff121_3 tsz129 tagg129 tbytes129 tzero129 tzero1_129 tsz130 tagg130 tbytes130 tzero130 tzero1_130 tsz132 tagg132 tbytes132 tzero132 tzero1_132 tsz206 tagg206 tbytes206 tzero206 tzero1_206 mtype206 tsz208 tagg208 tbytes208 tsz217 tagg217 tel217 tbytes217 tzero217 tzero1_217 tsz220 tagg220 tbytes220 tzero220 foff220_0 foff220_1 tsz235 tagg235 tel235 tbytes235 tzero235 tzero1_235 tsz256 tagg256 tbytes256 tzero256 tzero1_256 mtype256 tsz351 tagg351 tbytes351 tzero351 tsz2 tagg2 tbytes2 tint2 tzero2 tzero1_2 tsz291 tagg291 tbytes291 tint291 tzero291 tzero1_291 sized32 places32_0 places32_1 places32_2 places32_3 places32_4 places32_5 places32_6 places32_7 places32_8 places32_9 sized38 places38_0 places38_1 places38_2 sized54 places54_0 places54_1 places54_2 places54_3 places54_4 places54_5 sized79 places79_0 places79_1 places79_2 sized117 places117_0 places117_1 places117_2 sized119 places119_0 places119_1 sized121 places121_0 places121_1 places121_2 places121_3 sized220 places220_0 places220_1
attribute [local simp] V.c V.z Sd.c Tst.c Fx.c Rl.c Fc.c Gr.c wrap1f take_map_len take_map_len1 wrap1 wrap2 wrap3
end Go.Proofs.T1
namespace Go.Proofs.T1
open Go.Vc
open Tryz
set_option linter.unusedSimpArgs false
set_option linter.unusedVariables false
set_option maxHeartbeats 4000000
set_option maxRecDepth 20000
attribute [local simp] runD_nil runD_cons runDO runDG runDV stabs stabO stabG runK_nil runK_cons runG_t runG_f runS_some runS_none gate dstOf step2 step1 vq vop vlook mput mfind isKeyB keq fin1 hbox halloc hstore hbuild hbuildSlice happend hmake vslice bound vbuild partsOf elemsOf inOrder topvs toPV svCells splice srcOf isNil St.ev St.evs St.fits St.put St.new St.upd St.frzs St.frz lk hset litOf vbuiltin vlen vbin vindex vfield vload rdc pvs capsOf Value.oneCell'
attribute [local simp] tsz3 tagg3 tbytes3 tint3 tzero3 tzero1_3 tsz4 tagg4 tbytes4 tbool4 tzero4 tzero1_4 tsz5 tagg5 tbytes5 tint5 tzero5 tzero1_5 tsz9 tagg9 tbytes9 tstr9 tzero9 tzero1_9 tsz22 tagg22 tel22 tbytes22 tzero22 tzero1_22 tsz23 tagg23 tel23 tbytes23 tzero23 tzero1_23 tsz24 tagg24 tel24 tbytes24 tzero24 tzero1_24 tsz25 tagg25 tbytes25 tzero25 tzero1_25 tsz29 tagg29 tel29 tbytes29 tzero29 tzero1_29 tsz30 tagg30 tel30 tbytes30 tzero30 tzero1_30 tsz32 tagg32 tbytes32 tzero32 foff32_0 foff32_1 foff32_2 foff32_3 foff32_4 foff32_5 foff32_6 foff32_7 foff32_8 foff32_9 tsz33 tagg33 tel33 tbytes33 tzero33 tzero1_33 tsz34 tagg34 tbytes34 tint34 tzero34 tzero1_34 tsz38 tagg38 tbytes38 tzero38 foff38_0 foff38_1 foff38_2 tsz47 tagg47 tel47 tbytes47 tzero47 tzero1_47 tsz52 tagg52 tel52 tbytes52 tzero52 tzero1_52 tsz54 tagg54 tbytes54 tzero54 foff54_0 foff54_1 foff54_2 foff54_3 foff54_4 foff54_5 tsz79 tagg79 tbytes79 tzero79 foff79_0 foff79_1 foff79_2 tsz117 tagg117 tbytes117 tzero117 foff117_0 foff117_1 foff117_2 tsz119 tagg119 tbytes119 tzero119 foff119_0 foff119_1 tsz121 tagg121 tbytes121 tzero121 foff121_0 foff121_1 foff121_2 foff121_3 tsz129 tagg129 tbytes129 tzero129 tzero1_129 tsz130 tagg130 tbytes130 tzero130 tzero1_130 tsz132 tagg132 tbytes132 tzero132 tzero1_132 tsz206 tagg206 tbytes206 tzero206 tzero1_206 mtype206 tsz208 tagg208 tbytes208 tsz217 tagg217 tel217 tbytes217 tzero217 tzero1_217 tsz220 tagg220 tbytes220 tzero220 foff220_0 foff220_1 tsz235 tagg235 tel235 tbytes235 tzero235 tzero1_235 tsz256 tagg256 tbytes256 tzero256 tzero1_256 mtype256 tsz351 tagg351 tbytes351 tzero351 tsz2 tagg2 tbytes2 tint2 tzero2 tzero1_2 tsz291 tagg291 tbytes291 tint291 tzero291 tzero1_291 sized32 places32_0 places32_1 places32_2 places32_3 places32_4 places32_5 places32_6 places32_7 places32_8 places32_9 sized38 places38_0 places38_1 places38_2 sized54 places54_0 places54_1 places54_2 places54_3 places54_4 places54_5 sized79 places79_0 places79_1 places79_2 sized117 places117_0 places117_1 places117_2 sized119 places119_0 places119_1 sized121 places121_0 places121_1 places121_2 places121_3 sized220 places220_0 places220_1
attribute [local simp] V.c V.z Sd.c Tst.c Fx.c Rl.c Fc.c Gr.c wrap1f take_map_len take_map_len1 wrap1 wrap2 wrap3
end Go.Proofs.T1
namespace Go.Proofs.T1
open Go.Vc
open Tryz
set_option linter.unusedSimpArgs false
set_option linter.unusedVariables false
set_option maxHeartbeats 4000000
set_option maxRecDepth 20000
attribute [local simp] runD_nil runD_cons runDO runDG runDV stabs stabO stabG runK_nil runK_cons runG_t runG_f runS_some runS_none gate dstOf step2 step1 vq vop vlook mput mfind isKeyB keq fin1 hbox halloc hstore hbuild hbuildSlice happend hmake vslice bound vbuild partsOf elemsOf inOrder topvs toPV svCells splice srcOf isNil St.ev St.evs St.fits St.put St.new St.upd St.frzs St.frz lk hset litOf vbuiltin vlen vbin vindex vfield vload rdc pvs capsOf Value.oneCell'
attribute [local simp] tsz3 tagg3 tbytes3 tint3 tzero3 tzero1_3 tsz4 tagg4 tbytes4 tbool4 tzero4 tzero1_4 tsz5 tagg5 tbytes5 tint5 tzero5 tzero1_5 tsz9 tagg9 tbytes9 tstr9 tzero9 tzero1_9 tsz22 tagg22 tel22 tbytes22 tzero22 tzero1_22 tsz23 tagg23 tel23 tbytes23 tzero23 tzero1_23 tsz24 tagg24 tel24 tbytes24 tzero24 tzero1_24 tsz25 tagg25 tbytes25 tzero25 tzero1_25 tsz29 tagg29 tel29 tbytes29 tzero29 tzero1_29 tsz30 tagg30 tel30 tbytes30 tzero30 tzero1_30 tsz32 tagg32 tbytes32 tzero32 foff32_0 foff32_1 foff32_2 foff32_3 foff32_4 foff32_5 foff32_6 foff32_7 foff32_8 foff32_9 tsz33 tagg33 tel33 tbytes33 tzero33 tzero1_33 tsz34 tagg34 tbytes34 tint34 tzero34 tzero1_34 tsz38 tagg38 tbytes38 tzero38 foff38_0 foff38_1 foff38_2 tsz47 tagg47 tel47 tbytes47 tzero47 tzero1_47 tsz52 tagg52 tel52 tbytes52 tzero52 tzero1_52 tsz54 tagg54 tbytes54 tzero54 foff54_0 foff54_1 foff54_2 foff54_3 foff54_4 foff54_5 tsz79 tagg79 tbytes79 tzero79 foff79_0 foff79_1 foff79_2 tsz117 tagg117 tbytes117 tzero117 foff117_0 foff117_1 foff117_2 tsz119 tagg119 tbytes119 tzero119 foff119_0 foff119_1 tsz121 tagg121 tbytes121 tzero121 foff121_0 foff121_1 foff121_2 foff121_3 tsz129 tagg129 tbytes129 tzero129 tzero1_129 tsz130 tagg130 tbytes130 tzero130 tzero1_130 tsz132 tagg132 tbytes132 tzero132 tzero1_132 tsz206 tagg206 tbytes206 tzero206 tzero1_206 mtype206 tsz208 tagg208 tbytes208 tsz217 tagg217 tel217 tbytes217 tzero217 tzero1_217 tsz220 tagg220 tbytes220 tzero220 foff220_0 foff220_1 tsz235 tagg235 tel235 tbytes235 tzero235 tzero1_235 tsz256 tagg256 tbytes256 tzero256 tzero1_256 mtype256 tsz351 tagg351 tbytes351 tzero351 tsz2 tagg2 tbytes2 tint2 tzero2 tzero1_2 tsz291 tagg291 tbytes291 tint291 tzero291 tzero1_291 sized32 places32_0 places32_1 places32_2 places32_3 places32_4 places32_5 places32_6 places32_7 places32_8 places32_9 sized38 places38_0 places38_1 places38_2 sized54 places54_0 places54_1 places54_2 places54_3 places54_4 places54_5 sized79 places79_0 places79_1 places79_2 sized117 places117_0 places117_1 places117_2 sized119 places119_0 places119_1 sized121 places121_0 places121_1 places121_2 places121_3 sized220 places220_0 places220_1
attribute [local simp] V.c V.z Sd.c Tst.c Fx.c Rl.c Fc.c Gr.c wrap1f take_map_len take_map_len1 wrap1 wrap2 wrap3
theorem enters5 : Enters Tryz.prog 5 := enters_mk Tryz.func5 (by kernel_rfl) (by kernel_rfl)
def anyTo (s D : List Int) (k : Nat) : Bool := (D.take k).any (isIn s)
theorem anyTo_succ {s D : List Int} {k : Nat} (h : k < D.length) : anyTo s D (k + 1) = (anyTo s D k || isIn s D[k]) := by
  unfold anyTo
  rw [List.take_succ_eq_append_getElem h, List.any_append]
  simp
theorem anyTo_end (s D : List Int) : anyTo s D D.length = D.any (isIn s) := by unfold anyTo; rw [List.take_length]
theorem dangL_len (R : List Rl) (F : List Fc) : (dangL R F).length ≤ F.length := by
  have h : (allI F.length).length = F.length := by simp [allI]
  have : (dangL R F).length ≤ (allI F.length).length := by unfold dangL; exact List.length_filter_le _ _
  omega
theorem law5_ok (R : List Rl) (F : List Fc) (which : List Bool) : CC Tryz.prog 5 [.pv (.sl 10 (prules R)), .pv (.sl 6 (pfacts F)), .pv (.sl 1 (pbools which))] (fun sv => sv = sbool true) := by
  refine cc_of_pw Tryz.func5 rfl enters5 Tryz.ntmps5 (by simp) (pw_of_pws ?_)
  have hf := few_ok R F 12
  cases hq : fewQ R F 12 with
  | false =>
    rw [hq] at hf
    clear hq
    repeat' (first | with_reducible refine pws_seq ?_ | ((with_reducible refine pws_regk fun K' S hK' hS => ?_); simp [argSlots, *]) | ((with_reducible refine Goes.go hK' ?_); clear hK' hS; clear K' S) | ((with_reducible refine GoesS.go hS ?_); clear hK' hS; clear K' S) | ((with_reducible refine pws_true ?_ ?_); (· simp; done)) | with_reducible refine pws_ret ?_ | ((with_reducible refine pwl_callk (c := ?_) (x := ?_) (f := ?_) (svs := ?_) (cs := ?_) (Qr := ?_) true ?_ ?_ ?_ ?_ ?_ ?_ ?_ ?_ ?_); rotate_left 6; (· (simp [argSlots, *]; done)); (· rfl); (· rfl); (· (simp; with_reducible rfl)); (· (simp; with_reducible rfl)); (· first | (simp [bors, bor]; with_reducible rfl) | (simp [bors, bor, *]; with_reducible rfl)); (· rfl); (· ((with_reducible refine head_ok))); (rintro sv hsv hsc; clear hsc; obtain rfl := hsv; refine ⟨(by first | (intro _; rfl) | (intro h; cases h)), ?_⟩; refine pwl_runk fun K' S hK' hS => ?_; simp [argSlots, *])) | ((with_reducible refine pwl_callk (c := ?_) (x := ?_) (f := ?_) (svs := ?_) (cs := ?_) (Qr := ?_) true ?_ ?_ ?_ ?_ ?_ ?_ ?_ ?_ ?_); rotate_left 6; (· (simp [argSlots, *]; done)); (· rfl); (· rfl); (· (simp; with_reducible rfl)); (· (simp; with_reducible rfl)); (· first | (simp [bors, bor]; with_reducible rfl) | (simp [bors, bor, *]; with_reducible rfl)); (· rfl); (· ((with_reducible refine hf))); (rintro sv hsv hsc; clear hsc; obtain rfl := hsv; refine ⟨(by first | (intro _; rfl) | (intro h; cases h)), ?_⟩; refine pwl_runk fun K' S hK' hS => ?_; simp [argSlots, *])) | fail)
    all_goals (refine finC_ret (vs := ?_) [] (by first | exact .inr rfl | exact .inl rfl) rfl ?_ ?_ ?_; rotate_left; (· simp [Tryz.results5, resL, resOf]; rfl); (· first | rfl | (simp [wrapRes, cv, SV.const, constL]; done)); (· first | (simp [wrapRes, cv, *]; done) | (simp [wrapRes, cv, *]; grind) | (simp [wrapRes, cv, *]; omega)))
  | true =>
    rw [hq] at hf
    obtain ⟨hR, hF, hl⟩ := fewQ_ok hq
    clear hq
    have hsm := some_ok F.length which (by omega)
    have hs := setP_some (n := F.length) (which := which)
    have hvi := dViolations_ok R F hR (by omega) (by omega)
    have hcc := consistent_ok R F (someI F.length which) hR (by omega) (by omega)
    have hlc := lContains_ok (violL R F) (someI F.length which)
    rw [cons_contains hs] at hlc
    have hdd := dDangling_ok R F (by omega)
    have hdl : (dangL R F).length ≤ 12 := by have := dangL_len R F; omega
    have hcf := dConflicts_ok R F hR (by omega) (by omega)
    have hec := lContains_ok (edgeL R F) (someI F.length which)
    rw [edge_contains hs] at hec
    unfold confG confE at hcf
    clear hs
    generalize someI F.length which = s at *
    generalize violL R F = v at *
    generalize edgeL R F = e at *
    generalize dangL R F = D at *
    generalize consL R F s = c at *
    cases hcb : costBad F with
    | true =>
      rw [hcb] at hcf
      simp only [if_true] at hcf
      clear hR
      cases c with
      | false =>
        repeat' (first | with_reducible refine pws_seq ?_ | with_reducible refine pws_skip ?_ | with_reducible refine pws_block ?_ | ((with_reducible refine pws_regk fun K' S hK' hS => ?_); simp [argSlots, *]) | ((with_reducible refine Goes.go hK' ?_); clear hK' hS; clear K' S) | ((with_reducible refine GoesS.go hS ?_); clear hK' hS; clear K' S) | ((with_reducible refine pws_false ?_ ?_); (· simp; done)) | ((with_reducible refine pwl_callk (c := ?_) (x := ?_) (f := ?_) (svs := ?_) (cs := ?_) (Qr := ?_) true ?_ ?_ ?_ ?_ ?_ ?_ ?_ ?_ ?_); rotate_left 6; (· (simp [argSlots, *]; done)); (· rfl); (· rfl); (· (simp; with_reducible rfl)); (· (simp; with_reducible rfl)); (· first | (simp [bors, bor]; with_reducible rfl) | (simp [bors, bor, *]; with_reducible rfl)); (· rfl); (· ((with_reducible refine head_ok))); (rintro sv hsv hsc; clear hsc; obtain rfl := hsv; refine ⟨(by first | (intro _; rfl) | (intro h; cases h)), ?_⟩; refine pwl_runk fun K' S hK' hS => ?_; simp [argSlots, *])) | ((with_reducible refine pwl_callk (c := ?_) (x := ?_) (f := ?_) (svs := ?_) (cs := ?_) (Qr := ?_) true ?_ ?_ ?_ ?_ ?_ ?_ ?_ ?_ ?_); rotate_left 6; (· (simp [argSlots, *]; done)); (· rfl); (· rfl); (· (simp; with_reducible rfl)); (· (simp; with_reducible rfl)); (· first | (simp [bors, bor]; with_reducible rfl) | (simp [bors, bor, *]; with_reducible rfl)); (· rfl); (· ((with_reducible refine hf))); (rintro sv hsv hsc; clear hsc; obtain rfl := hsv; refine ⟨(by first | (intro _; rfl) | (intro h; cases h)), ?_⟩; refine pwl_runk fun K' S hK' hS => ?_; simp [argSlots, *])) | ((with_reducible refine pwl_callk (c := ?_) (x := ?_) (f := ?_) (svs := ?_) (cs := ?_) (Qr := ?_) false ?_ ?_ ?_ ?_ ?_ ?_ ?_ ?_ ?_); rotate_left 6; (· (simp [argSlots, *]; done)); (· rfl); (· rfl); (· (simp; with_reducible rfl)); (· (simp; with_reducible rfl)); (· first | (simp [bors, bor]; with_reducible rfl) | (simp [bors, bor, *]; with_reducible rfl)); (· rfl); (· ((with_reducible refine hsm))); (rintro sv hsv hsc; clear hsc; obtain rfl := hsv; refine ⟨(by first | (intro _; rfl) | (intro h; cases h)), ?_⟩; refine pwl_runk fun K' S hK' hS => ?_; simp [argSlots, *])) | ((with_reducible refine pwl_callk (c := ?_) (x := ?_) (f := ?_) (svs := ?_) (cs := ?_) (Qr := ?_) false ?_ ?_ ?_ ?_ ?_ ?_ ?_ ?_ ?_); rotate_left 6; (· (simp [argSlots, *]; done)); (· rfl); (· rfl); (· (simp; with_reducible rfl)); (· (simp; with_reducible rfl)); (· first | (simp [bors, bor]; with_reducible rfl) | (simp [bors, bor, *]; with_reducible rfl)); (· rfl); (· ((with_reducible refine hvi))); (rintro sv hsv hsc; clear hsc; obtain rfl := hsv; refine ⟨(by first | (intro _; rfl) | (intro h; cases h)), ?_⟩; refine pwl_runk fun K' S hK' hS => ?_; simp [argSlots, *])) | ((with_reducible refine pwl_callk (c := ?_) (x := ?_) (f := ?_) (svs := ?_) (cs := ?_) (Qr := ?_) false ?_ ?_ ?_ ?_ ?_ ?_ ?_ ?_ ?_); rotate_left 6; (· (simp [argSlots, *]; done)); (· rfl); (· rfl); (· (simp; with_reducible rfl)); (· (simp; with_reducible rfl)); (· first | (simp [bors, bor]; with_reducible rfl) | (simp [bors, bor, *]; with_reducible rfl)); (· rfl); (· ((with_reducible refine hcc))); (rintro sv hsv hsc; clear hsc; obtain rfl := hsv; refine ⟨(by first | (intro _; rfl) | (intro h; cases h)), ?_⟩; refine pwl_runk fun K' S hK' hS => ?_; simp [argSlots, *])) | ((with_reducible refine pwl_callk (c := ?_) (x := ?_) (f := ?_) (svs := ?_) (cs := ?_) (Qr := ?_) false ?_ ?_ ?_ ?_ ?_ ?_ ?_ ?_ ?_); rotate_left 6; (· (simp [argSlots, *]; done)); (· rfl); (· rfl); (· (simp; with_reducible rfl)); (· (simp; with_reducible rfl)); (· first | (simp [bors, bor]; with_reducible rfl) | (simp [bors, bor, *]; with_reducible rfl)); (· rfl); (· ((with_reducible refine hlc))); (rintro sv hsv hsc; clear hsc; obtain rfl := hsv; refine ⟨(by first | (intro _; rfl) | (intro h; cases h)), ?_⟩; refine pwl_runk fun K' S hK' hS => ?_; simp [argSlots, *])) | ((with_reducible refine pwl_callk (c := ?_) (x := ?_) (f := ?_) (svs := ?_) (cs := ?_) (Qr := ?_) false ?_ ?_ ?_ ?_ ?_ ?_ ?_ ?_ ?_); rotate_left 6; (· (simp [argSlots, *]; done)); (· rfl); (· rfl); (· (simp; with_reducible rfl)); (· (simp; with_reducible rfl)); (· first | (simp [bors, bor]; with_reducible rfl) | (simp [bors, bor, *]; with_reducible rfl)); (· rfl); (· ((with_reducible refine hcf))); (rintro sv hsv hsc; clear hsc; obtain rfl := hsv; refine ⟨(by first | (intro _; rfl) | (intro h; cases h)), ?_⟩; refine pwl_runk fun K' S hK' hS => ?_; simp [argSlots, *])) | ((with_reducible refine pwl_callk (c := ?_) (x := ?_) (f := ?_) (svs := ?_) (cs := ?_) (Qr := ?_) false ?_ ?_ ?_ ?_ ?_ ?_ ?_ ?_ ?_); rotate_left 6; (· (simp [argSlots, *]; done)); (· rfl); (· rfl); (· (simp; with_reducible rfl)); (· (simp; with_reducible rfl)); (· first | (simp [bors, bor]; with_reducible rfl) | (simp [bors, bor, *]; with_reducible rfl)); (· rfl); (· ((with_reducible refine hdd))); (rintro sv hsv hsc; clear hsc; obtain rfl := hsv; refine ⟨(by first | (intro _; rfl) | (intro h; cases h)), ?_⟩; refine pwl_runk fun K' S hK' hS => ?_; simp [argSlots, *])) | fail)
        refine pws_loop (α := { k : Nat // k ≤ D.length }) (fun k => { n := 98, nx := 1, s := [(16, sint k.1), (15, sbool (anyTo s D k.1)), (14, .pv (.sl 1 (ints D))), (13, sint 1), (12, .ref 0 0), (11, sbool false), (8, .pv (.sl 1 (ints s))), (7, sbool true), (0, .pv (.sl 10 (prules R))), (1, .pv (.sl 6 (pfacts F)))], h := [(0, .box [sint 0, .pv (.sl 1 (ints [])), .pv (.sl 1 (psets []))])], d := [] }) (fun k => D.length - k.1) (fun _ => True) ⟨0, by simp⟩ trivial (ent_sub rfl rfl rfl (by simp [SubL, anyTo, *]) (by simp [SubL, *]) (by simp) (by simp) (by simp [slotsBelow, SV.lo, belowL]) (by simp [heapBelow, ABlk.lo, SV.lo, belowL, slotsBelow])) ?_
        rintro ⟨k, hk⟩ _ K hK
        by_cases h1 : k < D.length
        · have hw := wrap64_id (n := (k : Int) + 1) (by omega)
          have hin := In_ok s D[k]
          have has := anyTo_succ (s := s) h1
          clear hec
          cases ha : anyTo s D k with
          | true =>
            rw [ha] at has
            simp at has
            repeat' (first | with_reducible refine pws_seq ?_ | with_reducible refine pws_skip ?_ | with_reducible refine pws_block ?_ | ((with_reducible refine pws_regk fun K' S hK' hS => ?_); simp [argSlots, *]) | ((with_reducible refine Goes.go hK' ?_); clear hK' hS; clear K' S) | ((with_reducible refine pws_true ?_ ?_); (· simp; done)) | with_reducible refine blk_normal ?_ | with_reducible refine thenQ_normal ?_ | with_reducible refine pws_nil ?_)
            refine hK _ ⟨k + 1, by omega⟩ (ent_sub rfl rfl rfl (by simp [SubL, has, *]) (by simp [SubL, *]) (by simp) (by simp) (by simp [slotsBelow, SV.lo, belowL]) (by simp [heapBelow, ABlk.lo, SV.lo, belowL, slotsBelow])) trivial (by simp; omega)
          | false =>
            rw [ha] at has
            simp at has
            rw [← has] at hin
            repeat' (first | with_reducible refine pws_seq ?_ | with_reducible refine pws_skip ?_ | with_reducible refine pws_block ?_ | ((with_reducible refine pws_regk fun K' S hK' hS => ?_); simp [argSlots, *]) | ((with_reducible refine Goes.go hK' ?_); clear hK' hS; clear K' S) | ((with_reducible refine GoesS.go hS ?_); clear hK' hS; clear K' S) | ((with_reducible refine pws_true ?_ ?_); (· simp; done)) | with_reducible refine blk_normal ?_ | with_reducible refine thenQ_normal ?_ | with_reducible refine pws_nil ?_ | ((with_reducible refine pwl_callk (c := ?_) (x := ?_) (f := ?_) (svs := ?_) (cs := ?_) (Qr := ?_) false ?_ ?_ ?_ ?_ ?_ ?_ ?_ ?_ ?_); rotate_left 6; (· (simp [argSlots, *]; done)); (· rfl); (· rfl); (· (simp; with_reducible rfl)); (· (simp; with_reducible rfl)); (· first | (simp [bors, bor]; with_reducible rfl) | (simp [bors, bor, *]; with_reducible rfl)); (· rfl); (· ((with_reducible refine hin))); (rintro sv hsv hsc; clear hsc; obtain rfl := hsv; refine ⟨(by first | (intro _; rfl) | (intro h; cases h)), ?_⟩; refine pwl_runk fun K' S hK' hS => ?_; simp [argSlots, *])) | fail)
            refine hK _ ⟨k + 1, by omega⟩ (ent_sub rfl rfl rfl (by simp [SubL, *]) (by simp [SubL, *]) (by simp) (by simp) (by simp [slotsBelow, SV.lo, belowL]) (by simp [heapBelow, ABlk.lo, SV.lo, belowL, slotsBelow])) trivial (by simp; omega)
        · obtain rfl : k = D.length := by omega
          clear hK
          rw [anyTo_end]
          generalize D.any (isIn s) = b at *
          cases b
          · repeat' (first | with_reducible refine pws_seq ?_ | ((with_reducible refine pws_regk fun K' S hK' hS => ?_); simp [argSlots, *]) | ((with_reducible refine Goes.go hK' ?_); clear hK' hS; clear K' S) | ((with_reducible refine pws_false ?_ ?_); (· simp; done)) | with_reducible refine pws_ret ?_ | with_reducible refine blk_same ?_ | with_reducible refine thenQ_exit ?_ | with_reducible refine pws_exit ?_)
            all_goals (refine finC_ret (vs := ?_) [] (by first | exact .inr rfl | exact .inl rfl) rfl ?_ ?_ ?_; rotate_left; (· simp [Tryz.results5, resL, resOf]; rfl); (· first | rfl | (simp [wrapRes, cv, SV.const, constL]; done)); (· first | (simp [wrapRes, cv, *]; done) | (simp [wrapRes, cv, *]; grind) | (simp [wrapRes, cv, *]; omega)))
          · repeat' (first | with_reducible refine pws_seq ?_ | ((with_reducible refine pws_regk fun K' S hK' hS => ?_); simp [argSlots, *]) | ((with_reducible refine Goes.go hK' ?_); clear hK' hS; clear K' S) | ((with_reducible refine pws_false ?_ ?_); (· simp; done)) | with_reducible refine pws_ret ?_ | with_reducible refine blk_same ?_ | with_reducible refine thenQ_exit ?_ | with_reducible refine pws_exit ?_)
            all_goals (refine finC_ret (vs := ?_) [] (by first | exact .inr rfl | exact .inl rfl) rfl ?_ ?_ ?_; rotate_left; (· simp [Tryz.results5, resL, resOf]; rfl); (· first | rfl | (simp [wrapRes, cv, SV.const, constL]; done)); (· first | (simp [wrapRes, cv, *]; done) | (simp [wrapRes, cv, *]; grind) | (simp [wrapRes, cv, *]; omega)))
      | true =>
        repeat' (first | with_reducible refine pws_seq ?_ | with_reducible refine pws_skip ?_ | with_reducible refine pws_block ?_ | ((with_reducible refine pws_regk fun K' S hK' hS => ?_); simp [argSlots, *]) | ((with_reducible refine Goes.go hK' ?_); clear hK' hS; clear K' S) | ((with_reducible refine GoesS.go hS ?_); clear hK' hS; clear K' S) | ((with_reducible refine pws_false ?_ ?_); (· simp; done)) | ((with_reducible refine pwl_callk (c := ?_) (x := ?_) (f := ?_) (svs := ?_) (cs := ?_) (Qr := ?_) true ?_ ?_ ?_ ?_ ?_ ?_ ?_ ?_ ?_); rotate_left 6; (· (simp [argSlots, *]; done)); (· rfl); (· rfl); (· (simp; with_reducible rfl)); (· (simp; with_reducible rfl)); (· first | (simp [bors, bor]; with_reducible rfl) | (simp [bors, bor, *]; with_reducible rfl)); (· rfl); (· ((with_reducible refine head_ok))); (rintro sv hsv hsc; clear hsc; obtain rfl := hsv; refine ⟨(by first | (intro _; rfl) | (intro h; cases h)), ?_⟩; refine pwl_runk fun K' S hK' hS => ?_; simp [argSlots, *])) | ((with_reducible refine pwl_callk (c := ?_) (x := ?_) (f := ?_) (svs := ?_) (cs := ?_) (Qr := ?_) true ?_ ?_ ?_ ?_ ?_ ?_ ?_ ?_ ?_); rotate_left 6; (· (simp [argSlots, *]; done)); (· rfl); (· rfl); (· (simp; with_reducible rfl)); (· (simp; with_reducible rfl)); (· first | (simp [bors, bor]; with_reducible rfl) | (simp [bors, bor, *]; with_reducible rfl)); (· rfl); (· ((with_reducible refine hf))); (rintro sv hsv hsc; clear hsc; obtain rfl := hsv; refine ⟨(by first | (intro _; rfl) | (intro h; cases h)), ?_⟩; refine pwl_runk fun K' S hK' hS => ?_; simp [argSlots, *])) | ((with_reducible refine pwl_callk (c := ?_) (x := ?_) (f := ?_) (svs := ?_) (cs := ?_) (Qr := ?_) false ?_ ?_ ?_ ?_ ?_ ?_ ?_ ?_ ?_); rotate_left 6; (· (simp [argSlots, *]; done)); (· rfl); (· rfl); (· (simp; with_reducible rfl)); (· (simp; with_reducible rfl)); (· first | (simp [bors, bor]; with_reducible rfl) | (simp [bors, bor, *]; with_reducible rfl)); (· rfl); (· ((with_reducible refine hsm))); (rintro sv hsv hsc; clear hsc; obtain rfl := hsv; refine ⟨(by first | (intro _; rfl) | (intro h; cases h)), ?_⟩; refine pwl_runk fun K' S hK' hS => ?_; simp [argSlots, *])) | ((with_reducible refine pwl_callk (c := ?_) (x := ?_) (f := ?_) (svs := ?_) (cs := ?_) (Qr := ?_) false ?_ ?_ ?_ ?_ ?_ ?_ ?_ ?_ ?_); rotate_left 6; (· (simp [argSlots, *]; done)); (· rfl); (· rfl); (· (simp; with_reducible rfl)); (· (simp; with_reducible rfl)); (· first | (simp [bors, bor]; with_reducible rfl) | (simp [bors, bor, *]; with_reducible rfl)); (· rfl); (· ((with_reducible refine hvi))); (rintro sv hsv hsc; clear hsc; obtain rfl := hsv; refine ⟨(by first | (intro _; rfl) | (intro h; cases h)), ?_⟩; refine pwl_runk fun K' S hK' hS => ?_; simp [argSlots, *])) | ((with_reducible refine pwl_callk (c := ?_) (x := ?_) (f := ?_) (svs := ?_) (cs := ?_) (Qr := ?_) false ?_ ?_ ?_ ?_ ?_ ?_ ?_ ?_ ?_); rotate_left 6; (· (simp [argSlots, *]; done)); (· rfl); (· rfl); (· (simp; with_reducible rfl)); (· (simp; with_reducible rfl)); (· first | (simp [bors, bor]; with_reducible rfl) | (simp [bors, bor, *]; with_reducible rfl)); (· rfl); (· ((with_reducible refine hcc))); (rintro sv hsv hsc; clear hsc; obtain rfl := hsv; refine ⟨(by first | (intro _; rfl) | (intro h; cases h)), ?_⟩; refine pwl_runk fun K' S hK' hS => ?_; simp [argSlots, *])) | ((with_reducible refine pwl_callk (c := ?_) (x := ?_) (f := ?_) (svs := ?_) (cs := ?_) (Qr := ?_) false ?_ ?_ ?_ ?_ ?_ ?_ ?_ ?_ ?_); rotate_left 6; (· (simp [argSlots, *]; done)); (· rfl); (· rfl); (· (simp; with_reducible rfl)); (· (simp; with_reducible rfl)); (· first | (simp [bors, bor]; with_reducible rfl) | (simp [bors, bor, *]; with_reducible rfl)); (· rfl); (· ((with_reducible refine hlc))); (rintro sv hsv hsc; clear hsc; obtain rfl := hsv; refine ⟨(by first | (intro _; rfl) | (intro h; cases h)), ?_⟩; refine pwl_runk fun K' S hK' hS => ?_; simp [argSlots, *])) | ((with_reducible refine pwl_callk (c := ?_) (x := ?_) (f := ?_) (svs := ?_) (cs := ?_) (Qr := ?_) false ?_ ?_ ?_ ?_ ?_ ?_ ?_ ?_ ?_); rotate_left 6; (· (simp [argSlots, *]; done)); (· rfl); (· rfl); (· (simp; with_reducible rfl)); (· (simp; with_reducible rfl)); (· first | (simp [bors, bor]; with_reducible rfl) | (simp [bors, bor, *]; with_reducible rfl)); (· rfl); (· ((with_reducible refine hcf))); (rintro sv hsv hsc; clear hsc; obtain rfl := hsv; refine ⟨(by first | (intro _; rfl) | (intro h; cases h)), ?_⟩; refine pwl_runk fun K' S hK' hS => ?_; simp [argSlots, *])) | ((with_reducible refine pwl_callk (c := ?_) (x := ?_) (f := ?_) (svs := ?_) (cs := ?_) (Qr := ?_) false ?_ ?_ ?_ ?_ ?_ ?_ ?_ ?_ ?_); rotate_left 6; (· (simp [argSlots, *]; done)); (· rfl); (· rfl); (· (simp; with_reducible rfl)); (· (simp; with_reducible rfl)); (· first | (simp [bors, bor]; with_reducible rfl) | (simp [bors, bor, *]; with_reducible rfl)); (· rfl); (· ((with_reducible refine hdd))); (rintro sv hsv hsc; clear hsc; obtain rfl := hsv; refine ⟨(by first | (intro _; rfl) | (intro h; cases h)), ?_⟩; refine pwl_runk fun K' S hK' hS => ?_; simp [argSlots, *])) | fail)
        refine pws_loop (α := { k : Nat // k ≤ D.length }) (fun k => { n := 98, nx := 1, s := [(16, sint k.1), (15, sbool (anyTo s D k.1)), (14, .pv (.sl 1 (ints D))), (13, sint 1), (12, .ref 0 0), (11, sbool true), (8, .pv (.sl 1 (ints s))), (7, sbool true), (0, .pv (.sl 10 (prules R))), (1, .pv (.sl 6 (pfacts F)))], h := [(0, .box [sint 0, .pv (.sl 1 (ints [])), .pv (.sl 1 (psets []))])], d := [] }) (fun k => D.length - k.1) (fun _ => True) ⟨0, by simp⟩ trivial (ent_sub rfl rfl rfl (by simp [SubL, anyTo, *]) (by simp [SubL, *]) (by simp) (by simp) (by simp [slotsBelow, SV.lo, belowL]) (by simp [heapBelow, ABlk.lo, SV.lo, belowL, slotsBelow])) ?_
        rintro ⟨k, hk⟩ _ K hK
        by_cases h1 : k < D.length
        · have hw := wrap64_id (n := (k : Int) + 1) (by omega)
          have hin := In_ok s D[k]
          have has := anyTo_succ (s := s) h1
          clear hec
          cases ha : anyTo s D k with
          | true =>
            rw [ha] at has
            simp at has
            repeat' (first | with_reducible refine pws_seq ?_ | with_reducible refine pws_skip ?_ | with_reducible refine pws_block ?_ | ((with_reducible refine pws_regk fun K' S hK' hS => ?_); simp [argSlots, *]) | ((with_reducible refine Goes.go hK' ?_); clear hK' hS; clear K' S) | ((with_reducible refine pws_true ?_ ?_); (· simp; done)) | with_reducible refine blk_normal ?_ | with_reducible refine thenQ_normal ?_ | with_reducible refine pws_nil ?_)
            refine hK _ ⟨k + 1, by omega⟩ (ent_sub rfl rfl rfl (by simp [SubL, has, *]) (by simp [SubL, *]) (by simp) (by simp) (by simp [slotsBelow, SV.lo, belowL]) (by simp [heapBelow, ABlk.lo, SV.lo, belowL, slotsBelow])) trivial (by simp; omega)
          | false =>
            rw [ha] at has
            simp at has
            rw [← has] at hin
            repeat' (first | with_reducible refine pws_seq ?_ | with_reducible refine pws_skip ?_ | with_reducible refine pws_block ?_ | ((with_reducible refine pws_regk fun K' S hK' hS => ?_); simp [argSlots, *]) | ((with_reducible refine Goes.go hK' ?_); clear hK' hS; clear K' S) | ((with_reducible refine GoesS.go hS ?_); clear hK' hS; clear K' S) | ((with_reducible refine pws_true ?_ ?_); (· simp; done)) | with_reducible refine blk_normal ?_ | with_reducible refine thenQ_normal ?_ | with_reducible refine pws_nil ?_ | ((with_reducible refine pwl_callk (c := ?_) (x := ?_) (f := ?_) (svs := ?_) (cs := ?_) (Qr := ?_) false ?_ ?_ ?_ ?_ ?_ ?_ ?_ ?_ ?_); rotate_left 6; (· (simp [argSlots, *]; done)); (· rfl); (· rfl); (· (simp; with_reducible rfl)); (· (simp; with_reducible rfl)); (· first | (simp [bors, bor]; with_reducible rfl) | (simp [bors, bor, *]; with_reducible rfl)); (· rfl); (· ((with_reducible refine hin))); (rintro sv hsv hsc; clear hsc; obtain rfl := hsv; refine ⟨(by first | (intro _; rfl) | (intro h; cases h)), ?_⟩; refine pwl_runk fun K' S hK' hS => ?_; simp [argSlots, *])) | fail)
            refine hK _ ⟨k + 1, by omega⟩ (ent_sub rfl rfl rfl (by simp [SubL, *]) (by simp [SubL, *]) (by simp) (by simp) (by simp [slotsBelow, SV.lo, belowL]) (by simp [heapBelow, ABlk.lo, SV.lo, belowL, slotsBelow])) trivial (by simp; omega)
        · obtain rfl : k = D.length := by omega
          clear hK
          rw [anyTo_end]
          generalize D.any (isIn s) = b at *
          cases b
          · repeat' (first | with_reducible refine pws_seq ?_ | ((with_reducible refine pws_regk fun K' S hK' hS => ?_); simp [argSlots, *]) | ((with_reducible refine Goes.go hK' ?_); clear hK' hS; clear K' S) | ((with_reducible refine pws_false ?_ ?_); (· simp; done)) | with_reducible refine pws_ret ?_ | with_reducible refine blk_same ?_ | with_reducible refine thenQ_exit ?_ | with_reducible refine pws_exit ?_)
            all_goals (refine finC_ret (vs := ?_) [] (by first | exact .inr rfl | exact .inl rfl) rfl ?_ ?_ ?_; rotate_left; (· simp [Tryz.results5, resL, resOf]; rfl); (· first | rfl | (simp [wrapRes, cv, SV.const, constL]; done)); (· first | (simp [wrapRes, cv, *]; done) | (simp [wrapRes, cv, *]; grind) | (simp [wrapRes, cv, *]; omega)))
          · repeat' (first | with_reducible refine pws_seq ?_ | ((with_reducible refine pws_regk fun K' S hK' hS => ?_); simp [argSlots, *]) | ((with_reducible refine Goes.go hK' ?_); clear hK' hS; clear K' S) | ((with_reducible refine pws_false ?_ ?_); (· simp; done)) | with_reducible refine pws_ret ?_ | with_reducible refine blk_same ?_ | with_reducible refine thenQ_exit ?_ | with_reducible refine pws_exit ?_)
            all_goals (refine finC_ret (vs := ?_) [] (by first | exact .inr rfl | exact .inl rfl) rfl ?_ ?_ ?_; rotate_left; (· simp [Tryz.results5, resL, resOf]; rfl); (· first | rfl | (simp [wrapRes, cv, SV.const, constL]; done)); (· first | (simp [wrapRes, cv, *]; done) | (simp [wrapRes, cv, *]; grind) | (simp [wrapRes, cv, *]; omega)))
    | false =>
      rw [hcb] at hcf
      simp only [Bool.false_eq_true, if_false] at hcf
      clear hR
      cases c with
      | false =>
        repeat' (first | with_reducible refine pws_seq ?_ | with_reducible refine pws_skip ?_ | with_reducible refine pws_block ?_ | ((with_reducible refine pws_regk fun K' S hK' hS => ?_); simp [argSlots, *]) | ((with_reducible refine Goes.go hK' ?_); clear hK' hS; clear K' S) | ((with_reducible refine GoesS.go hS ?_); clear hK' hS; clear K' S) | ((with_reducible refine pws_false ?_ ?_); (· simp; done)) | ((with_reducible refine pwl_callk (c := ?_) (x := ?_) (f := ?_) (svs := ?_) (cs := ?_) (Qr := ?_) true ?_ ?_ ?_ ?_ ?_ ?_ ?_ ?_ ?_); rotate_left 6; (· (simp [argSlots, *]; done)); (· rfl); (· rfl); (· (simp; with_reducible rfl)); (· (simp; with_reducible rfl)); (· first | (simp [bors, bor]; with_reducible rfl) | (simp [bors, bor, *]; with_reducible rfl)); (· rfl); (· ((with_reducible refine head_ok))); (rintro sv hsv hsc; clear hsc; obtain rfl := hsv; refine ⟨(by first | (intro _; rfl) | (intro h; cases h)), ?_⟩; refine pwl_runk fun K' S hK' hS => ?_; simp [argSlots, *])) | ((with_reducible refine pwl_callk (c := ?_) (x := ?_) (f := ?_) (svs := ?_) (cs := ?_) (Qr := ?_) true ?_ ?_ ?_ ?_ ?_ ?_ ?_ ?_ ?_); rotate_left 6; (· (simp [argSlots, *]; done)); (· rfl); (· rfl); (· (simp; with_reducible rfl)); (· (simp; with_reducible rfl)); (· first | (simp [bors, bor]; with_reducible rfl) | (simp [bors, bor, *]; with_reducible rfl)); (· rfl); (· ((with_reducible refine hf))); (rintro sv hsv hsc; clear hsc; obtain rfl := hsv; refine ⟨(by first | (intro _; rfl) | (intro h; cases h)), ?_⟩; refine pwl_runk fun K' S hK' hS => ?_; simp [argSlots, *])) | ((with_reducible refine pwl_callk (c := ?_) (x := ?_) (f := ?_) (svs := ?_) (cs := ?_) (Qr := ?_) false ?_ ?_ ?_ ?_ ?_ ?_ ?_ ?_ ?_); rotate_left 6; (· (simp [argSlots, *]; done)); (· rfl); (· rfl); (· (simp; with_reducible rfl)); (· (simp; with_reducible rfl)); (· first | (simp [bors, bor]; with_reducible rfl) | (simp [bors, bor, *]; with_reducible rfl)); (· rfl); (· ((with_reducible refine hsm))); (rintro sv hsv hsc; clear hsc; obtain rfl := hsv; refine ⟨(by first | (intro _; rfl) | (intro h; cases h)), ?_⟩; refine pwl_runk fun K' S hK' hS => ?_; simp [argSlots, *])) | ((with_reducible refine pwl_callk (c := ?_) (x := ?_) (f := ?_) (svs := ?_) (cs := ?_) (Qr := ?_) false ?_ ?_ ?_ ?_ ?_ ?_ ?_ ?_ ?_); rotate_left 6; (· (simp [argSlots, *]; done)); (· rfl); (· rfl); (· (simp; with_reducible rfl)); (· (simp; with_reducible rfl)); (· first | (simp [bors, bor]; with_reducible rfl) | (simp [bors, bor, *]; with_reducible rfl)); (· rfl); (· ((with_reducible refine hvi))); (rintro sv hsv hsc; clear hsc; obtain rfl := hsv; refine ⟨(by first | (intro _; rfl) | (intro h; cases h)), ?_⟩; refine pwl_runk fun K' S hK' hS => ?_; simp [argSlots, *])) | ((with_reducible refine pwl_callk (c := ?_) (x := ?_) (f := ?_) (svs := ?_) (cs := ?_) (Qr := ?_) false ?_ ?_ ?_ ?_ ?_ ?_ ?_ ?_ ?_); rotate_left 6; (· (simp [argSlots, *]; done)); (· rfl); (· rfl); (· (simp; with_reducible rfl)); (· (simp; with_reducible rfl)); (· first | (simp [bors, bor]; with_reducible rfl) | (simp [bors, bor, *]; with_reducible rfl)); (· rfl); (· ((with_reducible refine hcc))); (rintro sv hsv hsc; clear hsc; obtain rfl := hsv; refine ⟨(by first | (intro _; rfl) | (intro h; cases h)), ?_⟩; refine pwl_runk fun K' S hK' hS => ?_; simp [argSlots, *])) | ((with_reducible refine pwl_callk (c := ?_) (x := ?_) (f := ?_) (svs := ?_) (cs := ?_) (Qr := ?_) false ?_ ?_ ?_ ?_ ?_ ?_ ?_ ?_ ?_); rotate_left 6; (· (simp [argSlots, *]; done)); (· rfl); (· rfl); (· (simp; with_reducible rfl)); (· (simp; with_reducible rfl)); (· first | (simp [bors, bor]; with_reducible rfl) | (simp [bors, bor, *]; with_reducible rfl)); (· rfl); (· ((with_reducible refine hlc))); (rintro sv hsv hsc; clear hsc; obtain rfl := hsv; refine ⟨(by first | (intro _; rfl) | (intro h; cases h)), ?_⟩; refine pwl_runk fun K' S hK' hS => ?_; simp [argSlots, *])) | ((with_reducible refine pwl_callk (c := ?_) (x := ?_) (f := ?_) (svs := ?_) (cs := ?_) (Qr := ?_) false ?_ ?_ ?_ ?_ ?_ ?_ ?_ ?_ ?_); rotate_left 6; (· (simp [argSlots, *]; done)); (· rfl); (· rfl); (· (simp; with_reducible rfl)); (· (simp; with_reducible rfl)); (· first | (simp [bors, bor]; with_reducible rfl) | (simp [bors, bor, *]; with_reducible rfl)); (· rfl); (· ((with_reducible refine hcf))); (rintro sv hsv hsc; clear hsc; obtain rfl := hsv; refine ⟨(by first | (intro _; rfl) | (intro h; cases h)), ?_⟩; refine pwl_runk fun K' S hK' hS => ?_; simp [argSlots, *])) | ((with_reducible refine pwl_callk (c := ?_) (x := ?_) (f := ?_) (svs := ?_) (cs := ?_) (Qr := ?_) false ?_ ?_ ?_ ?_ ?_ ?_ ?_ ?_ ?_); rotate_left 6; (· (simp [argSlots, *]; done)); (· rfl); (· rfl); (· (simp; with_reducible rfl)); (· (simp; with_reducible rfl)); (· first | (simp [bors, bor]; with_reducible rfl) | (simp [bors, bor, *]; with_reducible rfl)); (· rfl); (· ((with_reducible refine hdd))); (rintro sv hsv hsc; clear hsc; obtain rfl := hsv; refine ⟨(by first | (intro _; rfl) | (intro h; cases h)), ?_⟩; refine pwl_runk fun K' S hK' hS => ?_; simp [argSlots, *])) | fail)
        refine pws_loop (α := { k : Nat // k ≤ D.length }) (fun k => { n := 98, nx := 1, s := [(16, sint k.1), (15, sbool (anyTo s D k.1)), (14, .pv (.sl 1 (ints D))), (13, sint 0), (12, .ref 0 0), (11, sbool false), (8, .pv (.sl 1 (ints s))), (7, sbool true), (0, .pv (.sl 10 (prules R))), (1, .pv (.sl 6 (pfacts F)))], h := [(0, .box [sint F.length, .pv (.sl 1 (ints (F.map Fc.cost))), .pv (.sl 1 (psets e))])], d := [] }) (fun k => D.length - k.1) (fun _ => True) ⟨0, by simp⟩ trivial (ent_sub rfl rfl rfl (by simp [SubL, anyTo, *]) (by simp [SubL, *]) (by simp) (by simp) (by simp [slotsBelow, SV.lo, belowL]) (by simp [heapBelow, ABlk.lo, SV.lo, belowL, slotsBelow])) ?_
        rintro ⟨k, hk⟩ _ K hK
        by_cases h1 : k < D.length
        · have hw := wrap64_id (n := (k : Int) + 1) (by omega)
          have hin := In_ok s D[k]
          have has := anyTo_succ (s := s) h1
          clear hec
          cases ha : anyTo s D k with
          | true =>
            rw [ha] at has
            simp at has
            repeat' (first | with_reducible refine pws_seq ?_ | with_reducible refine pws_skip ?_ | with_reducible refine pws_block ?_ | ((with_reducible refine pws_regk fun K' S hK' hS => ?_); simp [argSlots, *]) | ((with_reducible refine Goes.go hK' ?_); clear hK' hS; clear K' S) | ((with_reducible refine pws_true ?_ ?_); (· simp; done)) | with_reducible refine blk_normal ?_ | with_reducible refine thenQ_normal ?_ | with_reducible refine pws_nil ?_)
            refine hK _ ⟨k + 1, by omega⟩ (ent_sub rfl rfl rfl (by simp [SubL, has, *]) (by simp [SubL, *]) (by simp) (by simp) (by simp [slotsBelow, SV.lo, belowL]) (by simp [heapBelow, ABlk.lo, SV.lo, belowL, slotsBelow])) trivial (by simp; omega)
          | false =>
            rw [ha] at has
            simp at has
            rw [← has] at hin
            repeat' (first | with_reducible refine pws_seq ?_ | with_reducible refine pws_skip ?_ | with_reducible refine pws_block ?_ | ((with_reducible refine pws_regk fun K' S hK' hS => ?_); simp [argSlots, *]) | ((with_reducible refine Goes.go hK' ?_); clear hK' hS; clear K' S) | ((with_reducible refine GoesS.go hS ?_); clear hK' hS; clear K' S) | ((with_reducible refine pws_true ?_ ?_); (· simp; done)) | with_reducible refine blk_normal ?_ | with_reducible refine thenQ_normal ?_ | with_reducible refine pws_nil ?_ | ((with_reducible refine pwl_callk (c := ?_) (x := ?_) (f := ?_) (svs := ?_) (cs := ?_) (Qr := ?_) false ?_ ?_ ?_ ?_ ?_ ?_ ?_ ?_ ?_); rotate_left 6; (· (simp [argSlots, *]; done)); (· rfl); (· rfl); (· (simp; with_reducible rfl)); (· (simp; with_reducible rfl)); (· first | (simp [bors, bor]; with_reducible rfl) | (simp [bors, bor, *]; with_reducible rfl)); (· rfl); (· ((with_reducible refine hin))); (rintro sv hsv hsc; clear hsc; obtain rfl := hsv; refine ⟨(by first | (intro _; rfl) | (intro h; cases h)), ?_⟩; refine pwl_runk fun K' S hK' hS => ?_; simp [argSlots, *])) | fail)
            refine hK _ ⟨k + 1, by omega⟩ (ent_sub rfl rfl rfl (by simp [SubL, *]) (by simp [SubL, *]) (by simp) (by simp) (by simp [slotsBelow, SV.lo, belowL]) (by simp [heapBelow, ABlk.lo, SV.lo, belowL, slotsBelow])) trivial (by simp; omega)
        · obtain rfl : k = D.length := by omega
          clear hK
          rw [anyTo_end]
          generalize D.any (isIn s) = b at *
          cases b
          · repeat' (first | with_reducible refine pws_seq ?_ | ((with_reducible refine pws_regk fun K' S hK' hS => ?_); simp [argSlots, *]) | ((with_reducible refine Goes.go hK' ?_); clear hK' hS; clear K' S) | ((with_reducible refine GoesS.go hS ?_); clear hK' hS; clear K' S) | ((with_reducible refine pws_false ?_ ?_); (· simp; done)) | with_reducible refine pws_ret ?_ | with_reducible refine blk_same ?_ | with_reducible refine thenQ_exit ?_ | with_reducible refine pws_exit ?_ | ((with_reducible refine pwl_callk (c := ?_) (x := ?_) (f := ?_) (svs := ?_) (cs := ?_) (Qr := ?_) false ?_ ?_ ?_ ?_ ?_ ?_ ?_ ?_ ?_); rotate_left 6; (· (simp [argSlots, *]; done)); (· rfl); (· rfl); (· (simp; with_reducible rfl)); (· (simp; with_reducible rfl)); (· first | (simp [bors, bor]; with_reducible rfl) | (simp [bors, bor, *]; with_reducible rfl)); (· rfl); (· ((with_reducible refine hec))); (rintro sv hsv hsc; clear hsc; obtain rfl := hsv; refine ⟨(by first | (intro _; rfl) | (intro h; cases h)), ?_⟩; refine pwl_runk fun K' S hK' hS => ?_; simp [argSlots, *])) | fail)
            all_goals (refine finC_ret (vs := ?_) [] (by first | exact .inr rfl | exact .inl rfl) rfl ?_ ?_ ?_; rotate_left; (· simp [Tryz.results5, resL, resOf]; rfl); (· first | rfl | (simp [wrapRes, cv, SV.const, constL]; done)); (· first | (simp [wrapRes, cv, *]; done) | (simp [wrapRes, cv, *]; grind) | (simp [wrapRes, cv, *]; omega)))
          · repeat' (first | with_reducible refine pws_seq ?_ | ((with_reducible refine pws_regk fun K' S hK' hS => ?_); simp [argSlots, *]) | ((with_reducible refine Goes.go hK' ?_); clear hK' hS; clear K' S) | ((with_reducible refine GoesS.go hS ?_); clear hK' hS; clear K' S) | ((with_reducible refine pws_false ?_ ?_); (· simp; done)) | with_reducible refine pws_ret ?_ | with_reducible refine blk_same ?_ | with_reducible refine thenQ_exit ?_ | with_reducible refine pws_exit ?_ | ((with_reducible refine pwl_callk (c := ?_) (x := ?_) (f := ?_) (svs := ?_) (cs := ?_) (Qr := ?_) false ?_ ?_ ?_ ?_ ?_ ?_ ?_ ?_ ?_); rotate_left 6; (· (simp [argSlots, *]; done)); (· rfl); (· rfl); (· (simp; with_reducible rfl)); (· (simp; with_reducible rfl)); (· first | (simp [bors, bor]; with_reducible rfl) | (simp [bors, bor, *]; with_reducible rfl)); (· rfl); (· ((with_reducible refine hec))); (rintro sv hsv hsc; clear hsc; obtain rfl := hsv; refine ⟨(by first | (intro _; rfl) | (intro h; cases h)), ?_⟩; refine pwl_runk fun K' S hK' hS => ?_; simp [argSlots, *])) | fail)
            all_goals (refine finC_ret (vs := ?_) [] (by first | exact .inr rfl | exact .inl rfl) rfl ?_ ?_ ?_; rotate_left; (· simp [Tryz.results5, resL, resOf]; rfl); (· first | rfl | (simp [wrapRes, cv, SV.const, constL]; done)); (· first | (simp [wrapRes, cv, *]; done) | (simp [wrapRes, cv, *]; grind) | (simp [wrapRes, cv, *]; omega)))
      | true =>
        repeat' (first | with_reducible refine pws_seq ?_ | with_reducible refine pws_skip ?_ | with_reducible refine pws_block ?_ | ((with_reducible refine pws_regk fun K' S hK' hS => ?_); simp [argSlots, *]) | ((with_reducible refine Goes.go hK' ?_); clear hK' hS; clear K' S) | ((with_reducible refine GoesS.go hS ?_); clear hK' hS; clear K' S) | ((with_reducible refine pws_false ?_ ?_); (· simp; done)) | ((with_reducible refine pwl_callk (c := ?_) (x := ?_) (f := ?_) (svs := ?_) (cs := ?_) (Qr := ?_) true ?_ ?_ ?_ ?_ ?_ ?_ ?_ ?_ ?_); rotate_left 6; (· (simp [argSlots, *]; done)); (· rfl); (· rfl); (· (simp; with_reducible rfl)); (· (simp; with_reducible rfl)); (· first | (simp [bors, bor]; with_reducible rfl) | (simp [bors, bor, *]; with_reducible rfl)); (· rfl); (· ((with_reducible refine head_ok))); (rintro sv hsv hsc; clear hsc; obtain rfl := hsv; refine ⟨(by first | (intro _; rfl) | (intro h; cases h)), ?_⟩; refine pwl_runk fun K' S hK' hS => ?_; simp [argSlots, *])) | ((with_reducible refine pwl_callk (c := ?_) (x := ?_) (f := ?_) (svs := ?_) (cs := ?_) (Qr := ?_) true ?_ ?_ ?_ ?_ ?_ ?_ ?_ ?_ ?_); rotate_left 6; (· (simp [argSlots, *]; done)); (· rfl); (· rfl); (· (simp; with_reducible rfl)); (· (simp; with_reducible rfl)); (· first | (simp [bors, bor]; with_reducible rfl) | (simp [bors, bor, *]; with_reducible rfl)); (· rfl); (· ((with_reducible refine hf))); (rintro sv hsv hsc; clear hsc; obtain rfl := hsv; refine ⟨(by first | (intro _; rfl) | (intro h; cases h)), ?_⟩; refine pwl_runk fun K' S hK' hS => ?_; simp [argSlots, *])) | ((with_reducible refine pwl_callk (c := ?_) (x := ?_) (f := ?_) (svs := ?_) (cs := ?_) (Qr := ?_) false ?_ ?_ ?_ ?_ ?_ ?_ ?_ ?_ ?_); rotate_left 6; (· (simp [argSlots, *]; done)); (· rfl); (· rfl); (· (simp; with_reducible rfl)); (· (simp; with_reducible rfl)); (· first | (simp [bors, bor]; with_reducible rfl) | (simp [bors, bor, *]; with_reducible rfl)); (· rfl); (· ((with_reducible refine hsm))); (rintro sv hsv hsc; clear hsc; obtain rfl := hsv; refine ⟨(by first | (intro _; rfl) | (intro h; cases h)), ?_⟩; refine pwl_runk fun K' S hK' hS => ?_; simp [argSlots, *])) | ((with_reducible refine pwl_callk (c := ?_) (x := ?_) (f := ?_) (svs := ?_) (cs := ?_) (Qr := ?_) false ?_ ?_ ?_ ?_ ?_ ?_ ?_ ?_ ?_); rotate_left 6; (· (simp [argSlots, *]; done)); (· rfl); (· rfl); (· (simp; with_reducible rfl)); (· (simp; with_reducible rfl)); (· first | (simp [bors, bor]; with_reducible rfl) | (simp [bors, bor, *]; with_reducible rfl)); (· rfl); (· ((with_reducible refine hvi))); (rintro sv hsv hsc; clear hsc; obtain rfl := hsv; refine ⟨(by first | (intro _; rfl) | (intro h; cases h)), ?_⟩; refine pwl_runk fun K' S hK' hS => ?_; simp [argSlots, *])) | ((with_reducible refine pwl_callk (c := ?_) (x := ?_) (f := ?_) (svs := ?_) (cs := ?_) (Qr := ?_) false ?_ ?_ ?_ ?_ ?_ ?_ ?_ ?_ ?_); rotate_left 6; (· (simp [argSlots, *]; done)); (· rfl); (· rfl); (· (simp; with_reducible rfl)); (· (simp; with_reducible rfl)); (· first | (simp [bors, bor]; with_reducible rfl) | (simp [bors, bor, *]; with_reducible rfl)); (· rfl); (· ((with_reducible refine hcc))); (rintro sv hsv hsc; clear hsc; obtain rfl := hsv; refine ⟨(by first | (intro _; rfl) | (intro h; cases h)), ?_⟩; refine pwl_runk fun K' S hK' hS => ?_; simp [argSlots, *])) | ((with_reducible refine pwl_callk (c := ?_) (x := ?_) (f := ?_) (svs := ?_) (cs := ?_) (Qr := ?_) false ?_ ?_ ?_ ?_ ?_ ?_ ?_ ?_ ?_); rotate_left 6; (· (simp [argSlots, *]; done)); (· rfl); (· rfl); (· (simp; with_reducible rfl)); (· (simp; with_reducible rfl)); (· first | (simp [bors, bor]; with_reducible rfl) | (simp [bors, bor, *]; with_reducible rfl)); (· rfl); (· ((with_reducible refine hlc))); (rintro sv hsv hsc; clear hsc; obtain rfl := hsv; refine ⟨(by first | (intro _; rfl) | (intro h; cases h)), ?_⟩; refine pwl_runk fun K' S hK' hS => ?_; simp [argSlots, *])) | ((with_reducible refine pwl_callk (c := ?_) (x := ?_) (f := ?_) (svs := ?_) (cs := ?_) (Qr := ?_) false ?_ ?_ ?_ ?_ ?_ ?_ ?_ ?_ ?_); rotate_left 6; (· (simp [argSlots, *]; done)); (· rfl); (· rfl); (· (simp; with_reducible rfl)); (· (simp; with_reducible rfl)); (· first | (simp [bors, bor]; with_reducible rfl) | (simp [bors, bor, *]; with_reducible rfl)); (· rfl); (· ((with_reducible refine hcf))); (rintro sv hsv hsc; clear hsc; obtain rfl := hsv; refine ⟨(by first | (intro _; rfl) | (intro h; cases h)), ?_⟩; refine pwl_runk fun K' S hK' hS => ?_; simp [argSlots, *])) | ((with_reducible refine pwl_callk (c := ?_) (x := ?_) (f := ?_) (svs := ?_) (cs := ?_) (Qr := ?_) false ?_ ?_ ?_ ?_ ?_ ?_ ?_ ?_ ?_); rotate_left 6; (· (simp [argSlots, *]; done)); (· rfl); (· rfl); (· (simp; with_reducible rfl)); (· (simp; with_reducible rfl)); (· first | (simp [bors, bor]; with_reducible rfl) | (simp [bors, bor, *]; with_reducible rfl)); (· rfl); (· ((with_reducible refine hdd))); (rintro sv hsv hsc; clear hsc; obtain rfl := hsv; refine ⟨(by first | (intro _; rfl) | (intro h; cases h)), ?_⟩; refine pwl_runk fun K' S hK' hS => ?_; simp [argSlots, *])) | fail)
        refine pws_loop (α := { k : Nat // k ≤ D.length }) (fun k => { n := 98, nx := 1, s := [(16, sint k.1), (15, sbool (anyTo s D k.1)), (14, .pv (.sl 1 (ints D))), (13, sint 0), (12, .ref 0 0), (11, sbool true), (8, .pv (.sl 1 (ints s))), (7, sbool true), (0, .pv (.sl 10 (prules R))), (1, .pv (.sl 6 (pfacts F)))], h := [(0, .box [sint F.length, .pv (.sl 1 (ints (F.map Fc.cost))), .pv (.sl 1 (psets e))])], d := [] }) (fun k => D.length - k.1) (fun _ => True) ⟨0, by simp⟩ trivial (ent_sub rfl rfl rfl (by simp [SubL, anyTo, *]) (by simp [SubL, *]) (by simp) (by simp) (by simp [slotsBelow, SV.lo, belowL]) (by simp [heapBelow, ABlk.lo, SV.lo, belowL, slotsBelow])) ?_
        rintro ⟨k, hk⟩ _ K hK
        by_cases h1 : k < D.length
        · have hw := wrap64_id (n := (k : Int) + 1) (by omega)
          have hin := In_ok s D[k]
          have has := anyTo_succ (s := s) h1
          clear hec
          cases ha : anyTo s D k with
          | true =>
            rw [ha] at has
            simp at has
            repeat' (first | with_reducible refine pws_seq ?_ | with_reducible refine pws_skip ?_ | with_reducible refine pws_block ?_ | ((with_reducible refine pws_regk fun K' S hK' hS => ?_); simp [argSlots, *]) | ((with_reducible refine Goes.go hK' ?_); clear hK' hS; clear K' S) | ((with_reducible refine pws_true ?_ ?_); (· simp; done)) | with_reducible refine blk_normal ?_ | with_reducible refine thenQ_normal ?_ | with_reducible refine pws_nil ?_)
            refine hK _ ⟨k + 1, by omega⟩ (ent_sub rfl rfl rfl (by simp [SubL, has, *]) (by simp [SubL, *]) (by simp) (by simp) (by simp [slotsBelow, SV.lo, belowL]) (by simp [heapBelow, ABlk.lo, SV.lo, belowL, slotsBelow])) trivial (by simp; omega)
          | false =>
            rw [ha] at has
            simp at has
            rw [← has] at hin
            repeat' (first | with_reducible refine pws_seq ?_ | with_reducible refine pws_skip ?_ | with_reducible refine pws_block ?_ | ((with_reducible refine pws_regk fun K' S hK' hS => ?_); simp [argSlots, *]) | ((with_reducible refine Goes.go hK' ?_); clear hK' hS; clear K' S) | ((with_reducible refine GoesS.go hS ?_); clear hK' hS; clear K' S) | ((with_reducible refine pws_true ?_ ?_); (· simp; done)) | with_reducible refine blk_normal ?_ | with_reducible refine thenQ_normal ?_ | with_reducible refine pws_nil ?_ | ((with_reducible refine pwl_callk (c := ?_) (x := ?_) (f := ?_) (svs := ?_) (cs := ?_) (Qr := ?_) false ?_ ?_ ?_ ?_ ?_ ?_ ?_ ?_ ?_); rotate_left 6; (· (simp [argSlots, *]; done)); (· rfl); (· rfl); (· (simp; with_reducible rfl)); (· (simp; with_reducible rfl)); (· first | (simp [bors, bor]; with_reducible rfl) | (simp [bors, bor, *]; with_reducible rfl)); (· rfl); (· ((with_reducible refine hin))); (rintro sv hsv hsc; clear hsc; obtain rfl := hsv; refine ⟨(by first | (intro _; rfl) | (intro h; cases h)), ?_⟩; refine pwl_runk fun K' S hK' hS => ?_; simp [argSlots, *])) | fail)
            refine hK _ ⟨k + 1, by omega⟩ (ent_sub rfl rfl rfl (by simp [SubL, *]) (by simp [SubL, *]) (by simp) (by simp) (by simp [slotsBelow, SV.lo, belowL]) (by simp [heapBelow, ABlk.lo, SV.lo, belowL, slotsBelow])) trivial (by simp; omega)
        · obtain rfl : k = D.length := by omega
          clear hK
          rw [anyTo_end]
          generalize D.any (isIn s) = b at *
          cases b
          · repeat' (first | with_reducible refine pws_seq ?_ | ((with_reducible refine pws_regk fun K' S hK' hS => ?_); simp [argSlots, *]) | ((with_reducible refine Goes.go hK' ?_); clear hK' hS; clear K' S) | ((with_reducible refine GoesS.go hS ?_); clear hK' hS; clear K' S) | ((with_reducible refine pws_false ?_ ?_); (· simp; done)) | with_reducible refine pws_ret ?_ | with_reducible refine blk_same ?_ | with_reducible refine thenQ_exit ?_ | with_reducible refine pws_exit ?_ | ((with_reducible refine pwl_callk (c := ?_) (x := ?_) (f := ?_) (svs := ?_) (cs := ?_) (Qr := ?_) false ?_ ?_ ?_ ?_ ?_ ?_ ?_ ?_ ?_); rotate_left 6; (· (simp [argSlots, *]; done)); (· rfl); (· rfl); (· (simp; with_reducible rfl)); (· (simp; with_reducible rfl)); (· first | (simp [bors, bor]; with_reducible rfl) | (simp [bors, bor, *]; with_reducible rfl)); (· rfl); (· ((with_reducible refine hec))); (rintro sv hsv hsc; clear hsc; obtain rfl := hsv; refine ⟨(by first | (intro _; rfl) | (intro h; cases h)), ?_⟩; refine pwl_runk fun K' S hK' hS => ?_; simp [argSlots, *])) | fail)
            all_goals (refine finC_ret (vs := ?_) [] (by first | exact .inr rfl | exact .inl rfl) rfl ?_ ?_ ?_; rotate_left; (· simp [Tryz.results5, resL, resOf]; rfl); (· first | rfl | (simp [wrapRes, cv, SV.const, constL]; done)); (· first | (simp [wrapRes, cv, *]; done) | (simp [wrapRes, cv, *]; grind) | (simp [wrapRes, cv, *]; omega)))
          · repeat' (first | with_reducible refine pws_seq ?_ | ((with_reducible refine pws_regk fun K' S hK' hS => ?_); simp [argSlots, *]) | ((with_reducible refine Goes.go hK' ?_); clear hK' hS; clear K' S) | ((with_reducible refine GoesS.go hS ?_); clear hK' hS; clear K' S) | ((with_reducible refine pws_false ?_ ?_); (· simp; done)) | with_reducible refine pws_ret ?_ | with_reducible refine blk_same ?_ | with_reducible refine thenQ_exit ?_ | with_reducible refine pws_exit ?_ | ((with_reducible refine pwl_callk (c := ?_) (x := ?_) (f := ?_) (svs := ?_) (cs := ?_) (Qr := ?_) false ?_ ?_ ?_ ?_ ?_ ?_ ?_ ?_ ?_); rotate_left 6; (· (simp [argSlots, *]; done)); (· rfl); (· rfl); (· (simp; with_reducible rfl)); (· (simp; with_reducible rfl)); (· first | (simp [bors, bor]; with_reducible rfl) | (simp [bors, bor, *]; with_reducible rfl)); (· rfl); (· ((with_reducible refine hec))); (rintro sv hsv hsc; clear hsc; obtain rfl := hsv; refine ⟨(by first | (intro _; rfl) | (intro h; cases h)), ?_⟩; refine pwl_runk fun K' S hK' hS => ?_; simp [argSlots, *])) | fail)
            all_goals (refine finC_ret (vs := ?_) [] (by first | exact .inr rfl | exact .inl rfl) rfl ?_ ?_ ?_; rotate_left; (· simp [Tryz.results5, resL, resOf]; rfl); (· first | rfl | (simp [wrapRes, cv, SV.const, constL]; done)); (· first | (simp [wrapRes, cv, *]; done) | (simp [wrapRes, cv, *]; grind) | (simp [wrapRes, cv, *]; omega)))
end Go.Proofs.T1
/- The law DenialComplete holds: for every input that the row lets in, the call returns true and each argument reads as before. Its row lists three package-level tables; the card ties them to the program's text. -/
set_option maxRecDepth 100000
namespace Go.Proofs.YtpnpkigicnmopaaGreatDoor
open Go Go.ChangeShapes Go.WideShapes Go.ChangeAt Go.WideMaps Go.WideElems Go.RowKit Go.Vc Go.Proofs.T1
theorem law5_lifted (os : Os) (started : os.Started) (H : Type) (enc : TypeId × Value → H) :
    ReturnsInHanded {} Tryz.checked os 5 .any (fun w args => (Rows.denialCompleteSpec.pre enc Tryz.prog Tryz.f5 [] false w args ∧ laidMetH Tryz.prog laid3 w) ∧ sizedMet enc Tryz.prog Tryz.f5 (OpenSpec.ofChange Rows.denialCompleteSpec) false w args)
      (Rows.denialCompleteSpec.post enc Tryz.prog Tryz.f5 false true false false) := by
  refine returnsInHanded_of_change_and (C := Tryz.checked) (X := fun w _ => laidMetH Tryz.prog laid3 w) (fun _ _ _ hh h => h.of_heap hh) own started (by kernel_rfl) Tryz.func5
    (ChangeSpec.witness_shaped (enc := enc) (C := Tryz.checked) (os := os) (X := fun w _ => laidMetH Tryz.prog laid3 w) false (World.doorLaid Tryz.prog 400 os) #[.slice none 0 0, .slice none 0 0, .slice none 0 0] 8 rfl (World.shaped_of_RefB (by kernel_rfl) (by kernel_rfl)) (by kernel_rfl) (by kernel_rfl) (by kernel_rfl) (door_met os _)) ?_
  intro W base args ds gs before hval0 hW _ _ _ _
  have hval : ∀ (j : Nat) t v, Tryz.f5.params[j]? = some t → args[j]? = some v → Value.okWide Tryz.prog W .any base t v := hval0
  have hW' := hW
  obtain ⟨p, q, hA0, _, _, _, _⟩ := hW
  have hA : DataW.TrodAll enc Tryz.prog W 0 (fun _ => true) true Tryz.f5.params.toList args.toList ds p := hA0
  rw [Tryz.params5] at hA hval
  obtain ⟨v0, vs0, d0, ds0, p0, q0, e0, rfl, rfl, h0, hA0⟩ := trodAll_cons hA
  obtain ⟨v1, vs1, d1, ds1, p1, q1, e1, rfl, rfl, h1, hA1⟩ := trodAll_cons hA0
  subst e1
  obtain ⟨v2, vs2, d2, ds2, p2, q2, e2, rfl, rfl, h2, hA2⟩ := trodAll_cons hA1
  subst e2
  obtain ⟨e3, rfl, rfl⟩ := trodAll_nil hA2
  subst e3
  obtain rfl : args = #[v0, v1, v2] := by rw [← Array.toArray_toList (xs := args), e0]
  obtain ⟨R0, r0⟩ := arg_rules (hval 0 22 v0 rfl rfl) h0
  obtain ⟨F1, r1⟩ := arg_facts (hval 1 23 v1 rfl rfl) h1
  obtain ⟨b2, r2⟩ := arg_bools (hval 2 47 v2 rfl rfl) h2
  refine law_post (svs := [.pv (.sl 10 (prules R0)), .pv (.sl 6 (pfacts F1)), .pv (.sl 1 (pbools b2))]) (law5_ok R0 F1 b2) rfl (fun j sv u hj hu => ?_) hW' rfl rfl (by kernel_rfl) (by rw [Tryz.params5]; kernel_rfl)
  match j with
  | 0 => simp at hj hu; subst hj hu; exact .pv _ _ r0
  | 1 => simp at hj hu; subst hj hu; exact .pv _ _ r1
  | 2 => simp at hj hu; subst hj hu; exact .pv _ _ r2
  | j + 3 => simp at hj
theorem law5_fact9 : (Rows.denialCompleteRow.inPlace == Tryz.prog.inPlace 5) = true := by kernel_rfl
theorem law5_fact10 : (Rows.denialCompleteRow.unfollowed == Tryz.prog.unfollowed 5) = true := by kernel_rfl
theorem law5_fact11 : (Rows.denialCompleteRow.recurses == Tryz.prog.recurses 5) = true := by kernel_rfl
theorem law5_fact12 : (Rows.denialCompleteRow.named == Tryz.prog.varsNamed 5) = true := by kernel_rfl
theorem law5_fact16 : (Rows.denialCompleteRow.loops == (Tryz.f5.params.toList ++ Rows.denialCompleteSpec.plain.varTypes Tryz.prog).any (Tryz.prog.loopsFrom ·)) = true := by kernel_rfl
theorem law5_facts : joinedFacts Tryz.prog 5 Tryz.f5 Rows.denialCompleteSpec Rows.denialCompleteRow = true :=
  joined (by kernel_rfl) (by kernel_rfl) (by kernel_rfl) (by kernel_rfl) (by kernel_rfl) law5_fact9 law5_fact10 law5_fact11 law5_fact12 (by kernel_rfl) (by kernel_rfl) (by kernel_rfl) law5_fact16 (by kernel_rfl) (by kernel_rfl) (by kernel_rfl) (by kernel_rfl) (by kernel_rfl) (by kernel_rfl) (by kernel_rfl) rfl rfl (by kernel_rfl) (by kernel_rfl) (by kernel_rfl) (by kernel_rfl)
theorem law5_named : Tryz.prog.funcNamed "cleanse/cleanselaw25.DenialComplete" = some 5 := by kernel_rfl
theorem law5_plain : Tryz.f5.isInstance Tryz.prog Rows.denialCompleteRow.origin Rows.denialCompleteRow.targs := of_decide_eq_true (by kernel_rfl)
theorem law5_own : Tryz.f5.isWrapper Tryz.prog Rows.denialCompleteRow.wrapper Rows.denialCompleteRow.mainSum := by
  unfold Func.isWrapper; first | (rw [if_pos (by decide +kernel)]; kernel_rfl) | (rw [if_neg (by decide +kernel)]; exact ⟨rfl, rfl⟩)
theorem law5_goes : false = Rows.denialCompleteRow.goesBy Tryz.prog := by kernel_rfl
theorem law5_text : Rows.denialCompleteRow.wfByText (OpenSpec.ofChange Rows.denialCompleteSpec) = true := by kernel_rfl
theorem law5_said : Rows.DenialCompleteSaid :=
  OpenClaim.holds_of_wide 5 Tryz.f5 rfl rfl rfl rfl rfl rfl rfl ⟨rfl, rfl, rfl, rfl, rfl⟩ rfl rfl rfl rfl rfl law5_named Tryz.func5 law5_facts law5_plain law5_own
    (fun os started H enc _ => law5_lifted os started H enc)
theorem law5_holds : Rows.DenialCompleteCardSaid :=
  Claim7.holds_tied_plain_at .later [] [.data, .data, .data] true (true, "49c22cd40531e0a5935ea59eb1785f2fd0eb702db4aed61b97646984eda5cce0") true
    law5_said (fun _ h => by cases h) law5_text (fun _ h => by cases h) denialComplete_row_tie rfl ⟨rfl, rfl⟩ tryz_main rfl
    (fun f fn hf hfn => by
      obtain rfl : f = 5 := (Option.some.inj (law5_named.symm.trans hf)).symm
      obtain rfl : fn = Tryz.f5 := (Option.some.inj (Tryz.func5.symm.trans hfn)).symm
      exact ⟨tryz_looks, fun j t ht => by
        rw [Tryz.params5] at ht
        have hm : t ∈ [22, 23, 47] := by simpa using Array.mem_of_getElem? ht
        have hall : ([22, 23, 47].all fun u => !Tryz.prog.wantsStandIn u) = true := by kernel_rfl
        exact (show Tryz.prog.wantsStandIn t = false by simpa using List.all_eq_true.1 hall t hm)⟩)
    law5_goes
end Go.Proofs.YtpnpkigicnmopaaGreatDoor
