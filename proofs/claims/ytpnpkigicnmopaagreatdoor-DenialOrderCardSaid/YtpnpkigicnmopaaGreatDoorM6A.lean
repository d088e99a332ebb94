import Derived.Test.YtpnpkigicnmopaaGreatDoorL9E
import Derived.RangeFuncLeaves
import Derived.RangeFuncNested
import Derived.Maps.AppendAt
import Derived.TacticsIn
import Derived.Laws.CopyRow
import Derived.Deep.OwnRows
import Derived.Maps.RangeRun
import Derived.Test.YtpnpkigicnmopaaGreatDoorProg
import Derived.KernelRfl
import Derived.Carry
import Derived.ChangeArms
import Derived.ChangeOld
import Derived.DataElems
import Derived.DataReads
import Derived.RowKit
import Derived.ChangeSame
import Derived.Laws.StructEq
import Derived.Lib.SliceRun
import Derived.Ground.NamesProg
import Derived.Shelf.Sort.Plain
import Derived.Lib.AppendStr
import Derived.Laws.Append
import Derived.Laws.IdiomStrings
import Derived.Ground.SlsfProg
import Derived.Shelf.SlSortCmp.Whole1
import Derived.Shelf.SlSortCmp.NoneTotal
import Derived.Test.YtpnpkigicnmopaaGreatDoorTie
import Derived.Test.YtpnpkigicnmopaaGreatDoorCards
import Derived.ProofKit
import Derived.LaidMore
import Derived.OpenShut
import Derived.Stop.Joined
import Derived.SevenTiedAt
/- The law DenialOrder holds: for every input that its row lets in, the call returns true and each argument reads as before. The row lists three package-level tables, which the card ties to the program's text. -/
set_option linter.unusedVariables false
set_option linter.unusedSimpArgs false
set_option linter.unnecessarySimpa false
set_option linter.all false
namespace Go.Proofs.T1
open Go.Vc
theorem min_len {R : List Rl} {F : List Fc} {s : List Int} (h : s ∈ violL R F) : 1 ≤ s.length ∧ s.length ≤ 3 := minBad_len (mem_violL.1 h)
def turn (n : Int) (s : List Int) : List Int := s.reverse.map fun x => n - 1 - x
theorem mem_turn {n x : Int} {s : List Int} : x ∈ turn n s ↔ n - 1 - x ∈ s := by
  unfold turn
  rw [List.mem_map]
  constructor
  · rintro ⟨y, hy, rfl⟩
    have : n - 1 - (n - 1 - y) = y := by omega
    rw [this]
    simpa using hy
  · intro h
    exact ⟨n - 1 - x, by simpa using h, by omega⟩
theorem turn_turn {n : Int} {s : List Int} : turn n (turn n s) = s := by
  unfold turn
  rw [← List.map_reverse, List.reverse_reverse, List.map_map]
  conv => rhs; rw [← List.map_id s]
  refine List.map_congr_left fun x _ => ?_
  simp
  omega
theorem inc_turn {n : Int} {s : List Int} (h : Inc s) : Inc (turn n s) := by
  unfold turn
  rw [Inc, List.pairwise_map, List.pairwise_reverse]
  exact h.imp fun h => by omega
theorem setP_turn {s : List Int} {n : Int} (h : SetP s n) : SetP (turn n s) n := by
  have h' := setP_iff.1 h
  refine setP_iff.2 ⟨inc_turn h'.1, fun x hx => ?_⟩
  have := h'.2 _ (mem_turn.1 hx)
  omega
theorem fc_rev {F : List Fc} {x : Int} (h0 : 0 ≤ x) (h1 : x < F.length) : fc F.reverse ((F.length : Int) - 1 - x) = fc F x := by
  unfold fc
  congr 1
  rw [List.getElem?_reverse (by omega)]
  congr 1
  omega
theorem sideV_rev {s : Sd} {F : List Fc} {e : List Int} (h : ∀ x ∈ e, 0 ≤ x ∧ x < F.length) : sideV s F.reverse (e.map fun x => (F.length : Int) - 1 - x) = sideV s F e := by
  unfold sideV
  rw [List.length_map]
  split
  · rfl
  · split
    · rfl
    · rename_i h1 h2
      have hlt : s.var.toNat < e.length := by omega
      rw [List.getElem?_map, List.getElem?_eq_getElem hlt]
      simp only [Option.map_some, Option.getD_some]
      have := h _ (List.getElem_mem hlt)
      rw [fc_rev this.1 this.2]
theorem holdsR_rev {d : Rl} {F : List Fc} {e : List Int} (h : ∀ x ∈ e, 0 ≤ x ∧ x < F.length) : holdsR d F.reverse (e.map fun x => (F.length : Int) - 1 - x) = holdsR d F e := by
  unfold holdsR
  congr 1
  · unfold tabOk
    rw [Bool.eq_iff_iff, List.all_eq_true, List.all_eq_true, List.zip_map_left]
    simp only [List.mem_map, forall_exists_index, and_imp, forall_apply_eq_imp_iff₂]
    constructor
    · intro hh q hq
      have h1 := hh q hq
      have := h q.1 (List.of_mem_zip hq).1
      simpa [fc_rev this.1 this.2] using h1
    · intro hh q hq
      have h1 := hh q hq
      have := h q.1 (List.of_mem_zip hq).1
      simpa [fc_rev this.1 this.2] using h1
  · unfold testR
    simp only [sideV_rev h]
theorem mem_denials_rev {R : List Rl} {d : Rl} : d ∈ denials R.reverse ↔ d ∈ denials R := by
  unfold denials
  simp [List.mem_flatMap]
theorem bad_rev {R : List Rl} {F : List Fc} {s : List Int} (hs : SetP s F.length) (h : BadP R F s) : BadP R.reverse F.reverse (turn F.length s) := by
  have h' := setP_iff.1 hs
  rcases h with h | ⟨d, hd, e, h1, h2, h3, h4⟩
  · obtain ⟨a, b, ha, hb, hab, he⟩ := (exP_iff h'.1.nodup).1 h
    refine .inl ((exP_iff (inc_turn h'.1).nodup).2 ⟨F.length - 1 - a, F.length - 1 - b, mem_turn.2 ?_, mem_turn.2 ?_, by omega, ?_⟩)
    · have : (F.length : Int) - 1 - (F.length - 1 - a) = a := by omega
      rw [this]; exact ha
    · have : (F.length : Int) - 1 - (F.length - 1 - b) = b := by omega
      rw [this]; exact hb
    · rw [fc_rev (h'.2 a ha).1 (h'.2 a ha).2, fc_rev (h'.2 b hb).1 (h'.2 b hb).2]
      exact he
  · refine .inr ⟨d, mem_denials_rev.2 hd, e.map fun x => (F.length : Int) - 1 - x, by simpa using h1, ?_, fun x hx => ?_, ?_⟩
    · rw [List.Nodup, List.pairwise_map]
      exact h2.imp fun h e => h (by omega)
    · obtain ⟨y, hy, rfl⟩ := List.mem_map.1 hx
      refine mem_turn.2 ?_
      have : (F.length : Int) - 1 - (F.length - 1 - y) = y := by omega
      rw [this]
      exact h3 y hy
    · rw [holdsR_rev fun x hx => h'.2 x (h3 x hx)]
      exact h4
theorem bad_rev_iff {R : List Rl} {F : List Fc} {s : List Int} (hs : SetP s F.length) : BadP R.reverse F.reverse (turn F.length s) ↔ BadP R F s := by
  refine ⟨fun h => ?_, bad_rev hs⟩
  have := bad_rev (R := R.reverse) (F := F.reverse) (by rw [List.length_reverse]; exact setP_turn hs) h
  rw [List.reverse_reverse, List.reverse_reverse, List.length_reverse, turn_turn] at this
  exact this
theorem cons_rev {R : List Rl} {F : List Fc} {s : List Int} (hs : SetP s F.length) : consL R.reverse F.reverse (turn F.length s) = consL R F s := by
  have hs' : SetP (turn F.length s) F.reverse.length := by rw [List.length_reverse]; exact setP_turn hs
  rw [Bool.eq_iff_iff, consL_iff, consL_iff, bad_rev_iff hs]
  exact ⟨fun h => ⟨hs, h.2⟩, fun h => ⟨hs', h.2⟩⟩
theorem min_rev {R : List Rl} {F : List Fc} {s : List Int} (h : MinBad R F s) : MinBad R.reverse F.reverse (turn F.length s) := by
  obtain ⟨h1, h2, h3⟩ := h
  refine ⟨by rw [List.length_reverse]; exact setP_turn h1, bad_rev h1 h2, fun t t1 t2 t3 => ?_⟩
  have h1' := setP_iff.1 (setP_turn h1)
  have ht : SetP t F.length := setP_iff.2 ⟨t1, fun x hx => h1'.2 x (t2 x hx)⟩
  have hb : BadP R F (turn F.length t) := by
    refine (bad_rev_iff (setP_turn ht)).1 ?_
    rw [turn_turn]
    exact t3
  have := h3 (turn F.length t) (inc_turn t1) (fun x hx => by
    have := mem_turn.1 (t2 _ (mem_turn.1 hx))
    have e : (F.length : Int) - 1 - (F.length - 1 - x) = x := by omega
    rwa [e] at this) hb
  rw [← this, turn_turn]
theorem viol_rev {R : List Rl} {F : List Fc} : lsort ((violL R.reverse F.reverse).map (turn F.length)) = violL R F := by
  symm
  refine violL_eq ⟨lsort_strict ?_, fun s => ?_⟩
  · rw [List.Nodup, List.pairwise_map]
    refine (violL_ok R.reverse F.reverse).1.imp fun {a b} h e => ?_
    have : a = b := by rw [← turn_turn (n := F.length) (s := a), e, turn_turn]
    subst this
    rw [lexLt_irrefl] at h; cases h
  · rw [mem_lsort, List.mem_map]
    constructor
    · rintro ⟨t, ht, rfl⟩
      have := min_rev (mem_violL.1 ht)
      rw [List.reverse_reverse, List.reverse_reverse, List.length_reverse] at this
      exact this
    · intro h
      exact ⟨_, mem_violL.2 (min_rev h), turn_turn⟩
theorem nf_rev {F : List Fc} {k : Nat} (h : k < F.length) : nf F.reverse (F.length - 1 - k) = nf F k := by
  unfold nf
  congr 1
  rw [List.getElem?_reverse (by omega)]
  congr 1
  omega
theorem supp_rev {R : List Rl} {F : List Fc} {S : Nat → Prop} (h : Supp R F S) : Supp R.reverse F.reverse fun k => S (F.length - 1 - k) := by
  intro k hk hS r hr hn
  rw [List.length_reverse] at hk ⊢
  have e : nf F.reverse k = nf F (F.length - 1 - k) := by
    have := nf_rev (F := F) (k := F.length - 1 - k) (by omega)
    have e : F.length - 1 - (F.length - 1 - k) = k := by omega
    rwa [e] at this
  rw [e] at hn ⊢
  obtain ⟨m, h1, h2, h3⟩ := h _ (by omega) hS r (by simpa using hr) hn
  refine ⟨F.length - 1 - m, by omega, ?_, by rw [nf_rev h1]; exact h3⟩
  have e2 : F.length - 1 - (F.length - 1 - m) = m := by omega
  show S (F.length - 1 - (F.length - 1 - m))
  rw [e2]
  exact h2
theorem dangP_rev {R : List Rl} {F : List Fc} {x : Int} (h : DangP R F x) : DangP R.reverse F.reverse (F.length - 1 - x) := by
  obtain ⟨h1, h2, h3⟩ := h
  refine ⟨by omega, by rw [List.length_reverse]; omega, ?_⟩
  rintro ⟨S, hS, hSx⟩
  have := supp_rev hS
  rw [List.reverse_reverse, List.reverse_reverse, List.length_reverse] at this
  refine h3 ⟨_, this, ?_⟩
  have e : F.length - 1 - x.toNat = ((F.length : Int) - 1 - x).toNat := by omega
  simp only [e]
  exact hSx
theorem dang_rev {R : List Rl} {F : List Fc} : turn F.length (dangL R.reverse F.reverse) = dangL R F := by
  refine inc_ext (inc_turn inc_dangL) inc_dangL fun x => ?_
  rw [mem_turn, mem_dangL, mem_dangL]
  constructor
  · intro h
    have := dangP_rev h
    rw [List.reverse_reverse, List.reverse_reverse, List.length_reverse] at this
    have e : (F.length : Int) - 1 - (F.length - 1 - x) = x := by omega
    rwa [e] at this
  · exact dangP_rev
theorem cons_take {R : List Rl} {F : List Fc} {s : List Int} {k : Nat} (h : consL R F s = true) : consL (R.take k) F s = true := by
  rw [consL_iff] at h ⊢
  refine ⟨h.1, fun hb => h.2 ?_⟩
  rcases hb with hb | ⟨d, hd, hr⟩
  · exact .inl hb
  · refine .inr ⟨d, ?_, hr⟩
    unfold denials at hd ⊢
    rw [List.mem_flatMap] at hd ⊢
    obtain ⟨r, h1, h2⟩ := hd
    exact ⟨r, List.mem_of_mem_take h1, h2⟩
end Go.Proofs.T1
namespace Go.Vc
open Go.RowKit Go.ChangeShapes
variable {P : Program}
theorem arg_int {H : Type} {enc : TypeId × Value → H} {w : World} {base : Nat} {sp : Nat → Bool} {held : Bool} {r : Reach} {b0 : Nat} {t : TypeId} {k : IntKind} {v : Value} {d : DataW H} {ps : List MemPlace}
    (ht : P.underlying t = some (.int k)) (hval : Value.okWide P w r b0 t v) (hd : DataW.Trod enc P w base sp held t v d ps) : ∃ n : Int, v = .int k n ∧ (Lit.int k n).wf = true := by
  have hv : v.cells.toList = [v] := by
    unfold Value.okWide at hval
    simp only [ht] at hval
    unfold Cell.okWide Cell.ok at hval
    simp only [ht] at hval
    cases v <;> simp_all [Value.cells]
  obtain ⟨fuel, hf⟩ := hd
  rw [hv] at hf
  obtain ⟨n, h1, _, h2⟩ := DataW.trod_int ht hf
  exact ⟨n, by simpa using h1, h2⟩
section
variable {H : Type} {enc : TypeId × Value → H}
end
end Go.Vc
namespace Go.Proofs.T1
open Go.Vc
open Tryz
set_option linter.unusedSimpArgs false
set_option linter.unusedVariables false
set_option maxHeartbeats 4000000
set_option maxRecDepth 20000
attribute [local simp] runD_nil runD_cons runDO runDG runDV stabs stabO stabG runK_nil runK_cons runG_t runG_f runS_some runS_none gate dstOf step2 step1 vq vop vlook mput mfind isKeyB keq fin1 hbox halloc hstore hbuild hbuildSlice happend hmake vslice bound vbuild partsOf elemsOf inOrder topvs toPV svCells splice srcOf isNil St.ev St.evs St.fits St.put St.new St.upd St.frzs St.frz lk hset litOf vbuiltin vlen vbin vindex vfield vload rdc pvs capsOf Value.oneCell'
attribute [local simp] tsz3 tagg3 tbytes3 tint3 tzero3 tzero1_3 tsz4 tagg4 tbytes4 tbool4 tzero4 tzero1_4 tsz5 tagg5 tbytes5 tint5 tzero5 tzero1_5 tsz9 tagg9 tbytes9 tstr9 tzero9 tzero1_9 tsz22 tagg22 tel22 tbytes22 tzero22 tzero1_22 tsz23 tagg23 tel23 tbytes23 tzero23 tzero1_23 tsz24 tagg24 tel24 tbytes24 tzero24 tzero1_24 tsz25 tagg25 tbytes25 tzero25 tzero1_25 tsz29 tagg29 tel29 tbytes29 tzero29 tzero1_29 tsz30 tagg30 tel30 tbytes30 tzero30 tzero1_30 tsz32 tagg32 tbytes32 tzero32 foff32_0 foff32_1 foff32_2 foff32_3 foff32_4 foff32_5 foff32_6 foff32_7 foff32_8 foff32_9 tsz33 tagg33 tel33 tbytes33 tzero33 tzero1_33 tsz34 tagg34 tbytes34 tint34 tzero34 tzero1_34 tsz38 tagg38 tbytes38 tzero38 foff38_0 foff38_1 foff38_2 tsz47 tagg47 tel47 tbytes47 tzero47 tzero1_47 tsz52 tagg52 tel52 tbytes52 tzero52 tzero1_52 tsz54 tagg54 tbytes54 tzero54 foff54_0 foff54_1 foff54_2 foff54_3 foff54_4 foff54_5 tsz79 tagg79 tbytes79 tzero79 foff79_0 foff79_1 foff79_2 tsz117 tagg117 tbytes117 tzero117 foff117_0 foff117_1 foff117_2 tsz119 tagg119 tbytes119 tzero119 foff119_0 foff119_1 tsz121 tagg121 tbytes121 tzero121 foff121_0 foff121_1 foff121_2 foff121_3 tsz129 tagg129 tbytes129 tzero129 tzero1_129 tsz130 tagg130 tbytes130 tzero130 tzero1_130 tsz132 tagg132 tbytes132 tzero132 tzero1_132 tsz206 tagg206 tbytes206 tzero206 tzero1_206 mtype206 tsz208 tagg208 tbytes208 tsz217 tagg217 tel217 tbytes217 tzero217 tzero1_217 tsz220 tagg220 tbytes220 tzero220 foff220_0 foff220_1 tsz235 tagg235 tel235 tbytes235 tzero235 tzero1_235 tsz256 tagg256 tbytes256 tzero256 tzero1_256 mtype256 tsz351 tagg351 tbytes351 tzero351 tsz2 tagg2 tbytes2 tint2 tzero2 tzero1_2 tsz291 tagg291 tbytes291 tint291 tzero291 tzero1_291 sized32 places32_0 places32_1 places32_2 places32_3 places32_4 places32_5 places32_6 places32_7 places32_8 places32_9 sized38 places38_0 places38_1 places38_2 sized54 places54_0 places54_1 places54_2 places54_3 places54_4 places54_5 sized79 places79_0 places79_1 places79_2 sized117 places117_0 places117_1 places117_2 sized119 places119_0 places119_1 sized121 places121_0 places121_1 places121_2 places121_3 sized220 places220_0 places220_1
attribute [local simp] V.c V.z Sd.c Tst.c Fx.c Rl.c Fc.c wrap1f take_map_len take_map_len1
theorem enters44 : Enters Tryz.prog 44 := enters_mk Tryz.func44 (by kernel_rfl) (by kernel_rfl)
def swapL (o : List (List Int)) (k : Nat) : List (List Int) := (o.set k ((o[k - 1]?).getD [])).set (k - 1) ((o[k]?).getD [])
theorem swapL_len {o : List (List Int)} {k : Nat} : (swapL o k).length = o.length := by simp [swapL]
theorem swapL_get {o : List (List Int)} {k : Nat} (h0 : 0 < k) (hk : k < o.length) (j : Nat) : (swapL o k)[j]? = if j = k then o[k - 1]? else if j = k - 1 then o[k]? else o[j]? := by
  unfold swapL
  have h1 : o[k - 1]? = some o[k - 1] := List.getElem?_eq_getElem (by omega)
  have h2 : o[k]? = some o[k] := List.getElem?_eq_getElem hk
  by_cases e1 : j = k
  · subst e1
    rw [List.getElem?_set_ne (by omega), List.getElem?_set_self hk, if_pos rfl, h1]
    rfl
  · rw [if_neg e1]
    by_cases e2 : j = k - 1
    · subst e2
      rw [List.getElem?_set_self (by simp; omega), if_pos rfl, h2]
      rfl
    · rw [if_neg e2, List.getElem?_set_ne (fun h => e2 h.symm), List.getElem?_set_ne (fun h => e1 h.symm)]
theorem swapL_perm {o : List (List Int)} {k : Nat} (h0 : 0 < k) (hk : k < o.length) : (swapL o k).Perm o := by
  obtain ⟨m, rfl⟩ : ∃ m, k = m + 1 := ⟨k - 1, by omega⟩
  have e : o = o.take m ++ o[m] :: o[m + 1] :: o.drop (m + 2) := by
    conv => lhs; rw [← List.take_append_drop m o, List.drop_eq_getElem_cons (by omega), List.drop_eq_getElem_cons (by omega)]
  have e2 : swapL o (m + 1) = o.take m ++ o[m + 1] :: o[m] :: o.drop (m + 2) := by
    have hl : (o.take m).length = m := by simp; omega
    refine List.ext_getElem? fun j => ?_
    rw [swapL_get (by omega) hk]
    by_cases h1 : j < m
    · rw [if_neg (by omega), if_neg (by omega), List.getElem?_append_left (by omega), List.getElem?_take_of_lt h1]
    · rw [List.getElem?_append_right (by omega), hl]
      by_cases h2 : j = m
      · subst h2
        rw [if_neg (by omega), if_pos (by omega)]
        simp [hk]
      · by_cases h3 : j = m + 1
        · subst h3
          rw [if_pos rfl]
          have : m + 1 - m = 1 := by omega
          rw [this]
          simp
        · rw [if_neg h3, if_neg (by omega)]
          obtain ⟨q, hq⟩ : ∃ q, j = m + 2 + q := ⟨j - (m + 2), by omega⟩
          subst hq
          have : m + 2 + q - m = q + 1 + 1 := by omega
          rw [this]
          simp only [List.getElem?_cons_succ, List.getElem?_drop]
  rw [e2]
  conv => rhs; rw [e]
  exact List.Perm.append_left _ (List.Perm.swap _ _ _)
theorem el_get {o : List (List Int)} {j : Nat} (h : j < o.length) : el o j = o[j] := by simp [el, h]
theorem el_swap {o : List (List Int)} {k : Nat} (h0 : 0 < k) (hk : k < o.length) (j : Nat) : el (swapL o k) j = if j = k then el o (k - 1) else if j = k - 1 then el o k else el o j := by
  unfold el
  rw [swapL_get h0 hk]
  split
  · rfl
  · split <;> rfl
def SrtTo (o : List (List Int)) (i : Nat) : Prop := ∀ a b, a < b → b < i → lexLt (el o b) (el o a) = false
def SrtBut (o : List (List Int)) (i k : Nat) : Prop := (∀ a b, a < b → b ≤ i → a ≠ k → b ≠ k → lexLt (el o b) (el o a) = false) ∧ ∀ b, k < b → b ≤ i → lexLt (el o b) (el o k) = false
theorem srt_start {o : List (List Int)} {i : Nat} (h : SrtTo o i) : SrtBut o i i := ⟨fun a b h1 h2 h3 h4 => h a b h1 (by omega), fun b h1 h2 => by omega⟩
theorem srt_swap {o : List (List Int)} {i k : Nat} (h : SrtBut o i k) (h0 : 0 < k) (hk : k < o.length) (hki : k ≤ i) (hl : lexLt (el o k) (el o (k - 1)) = true) : SrtBut (swapL o k) i (k - 1) := by
  obtain ⟨h1, h2⟩ := h
  refine ⟨fun a b hab hb ha hb' => ?_, fun b hb hbi => ?_⟩
  · rw [el_swap h0 hk, el_swap h0 hk, if_neg hb', if_neg ha]
    by_cases e1 : b = k
    · subst e1
      rw [if_pos rfl, if_neg (by omega)]
      exact h1 a (b - 1) (by omega) (by omega) (by omega) (by omega)
    · rw [if_neg e1]
      by_cases e2 : a = k
      · subst e2
        rw [if_pos rfl]
        exact h1 (a - 1) b (by omega) hb (by omega) e1
      · rw [if_neg e2]
        exact h1 a b hab hb e2 e1
  · rw [el_swap h0 hk, el_swap h0 hk, if_neg (by omega : ¬ k - 1 = k), if_pos rfl, if_neg (by omega : ¬ b = k - 1)]
    by_cases e1 : b = k
    · rw [if_pos e1]
      exact lexLt_asymm _ _ hl
    · rw [if_neg e1]
      exact h2 b (by omega) hbi
theorem srt_stop {o : List (List Int)} {i k : Nat} (h : SrtBut o i k) (hki : k ≤ i) (hs : k = 0 ∨ lexLt (el o k) (el o (k - 1)) = false) : SrtTo o (i + 1) := by
  obtain ⟨h1, h2⟩ := h
  intro a b hab hb
  by_cases e1 : a = k
  · subst e1
    exact h2 b hab (by omega)
  · by_cases e2 : b = k
    · subst e2
      rcases hs with hs | hs
      · omega
      · by_cases e3 : a = b - 1
        · rw [e3]; exact hs
        · exact lexLe_trans (h1 a (b - 1) (by omega) (by omega) e1 (by omega)) hs
    · exact h1 a b hab (by omega) e1 e2
theorem srt_done {l o : List (List Int)} (hp : o.Perm l) (h : SrtTo o o.length) : o = lsort l := by
  refine wsorted_ext ?_ lsort_sorted (hp.trans lsort_perm.symm)
  refine List.pairwise_iff_getElem.2 fun a b ha hb hab => ?_
  have := h a b hab hb
  rwa [el_get ha, el_get hb] at this
theorem psets_swap {o : List (List Int)} {k m : Nat} (hm : k - 1 = m) (hk : k < o.length) (h2 : m < o.length) : psets (swapL o k) = ((psets o).set k [.sl 1 (ints o[m])]).set m [.sl 1 (ints o[k])] := by
  unfold swapL
  rw [hm]
  simp [h2, hk, List.map_set]
theorem sorted_ok (l : List (List Int)) (hl : l.length ≤ 100000) : CC Tryz.prog 44 [.pv (.sl 1 (psets l))] (fun sv => sv = .pv (.sl 1 (psets (lsort l)))) := by
  refine CC.res ?_
  refine cc_of_pw Tryz.func44 rfl enters44 Tryz.ntmps44 (by simp) (pw_of_pws ?_)
  have hb0 : l.length * 24 ≤ 140737488355328 := by omega
  repeat' (first | with_reducible refine pws_seq ?_ | with_reducible refine pws_block ?_ | ((with_reducible refine pws_regk fun K' S hK' hS => ?_); simp [argSlots, *]) | ((with_reducible refine Goes.go hK' ?_); clear hK' hS; clear K' S))
  refine pws_loop (α := { q : Nat × List (List Int) // q.2.length = l.length }) (fun q => { n := 51, nx := 1, s := [(4, sint q.1.1), (3, .loc 1 0 1 0 l.length)], h := [(0, .arr 24 1 1 false (psets q.1.2))], d := [] }) (fun q => l.length - q.1.1) (fun q => 1 ≤ q.1.1 ∧ q.1.2.Perm l ∧ SrtTo q.1.2 q.1.1) ⟨(1, l), rfl⟩ ⟨Nat.le_refl 1, .refl _, fun a b h1 h2 => by have h2' : b < 1 := h2; omega⟩ (ent_sub rfl rfl rfl (by simp [SubL, *]) (by simp [SubL, *]) (by simp) (by simp) (by simp [slotsBelow, SV.lo, belowL]) (by simp [heapBelow, ABlk.lo, SV.lo, belowL, slotsBelow])) ?_
  rintro ⟨⟨i, o⟩, hol⟩ ⟨hi1, hperm, hsrt⟩ K hK
  simp only at hol hi1 hperm hsrt
  by_cases h1 : i < l.length
  · have hw := wrap64_id (n := (i : Int) + 1) (by omega)
    repeat' (first | with_reducible refine pws_seq ?_ | with_reducible refine pws_skip ?_ | with_reducible refine pws_block ?_ | ((with_reducible refine pws_regk fun K' S hK' hS => ?_); simp [argSlots, *]) | ((with_reducible refine Goes.go hK' ?_); clear hK' hS; clear K' S) | ((with_reducible refine pws_true ?_ ?_); (· simp; done)) | fail)
    refine pws_loop (α := { q : Nat × List (List Int) // q.1 ≤ i ∧ q.2.length = l.length }) (fun q => { n := 51, nx := 1, s := [(5, sint q.1.1), (4, sint i), (3, .loc 1 0 1 0 l.length)], h := [(0, .arr 24 1 1 false (psets q.1.2))], d := [] }) (fun q => q.1.1) (fun q => q.1.2.Perm l ∧ SrtBut q.1.2 i q.1.1) ⟨(i, o), Nat.le_refl _, hol⟩ ⟨hperm, srt_start hsrt⟩ (ent_sub rfl rfl rfl (by simp [SubL, *]) (by simp [SubL, *]) (by simp) (by simp) (by simp [slotsBelow, SV.lo, belowL]) (by simp [heapBelow, ABlk.lo, SV.lo, belowL, slotsBelow])) ?_
    clear hperm hsrt
    rintro ⟨⟨k, p⟩, hki, hpl⟩ ⟨hperm, hsrt⟩ K2 hK2
    simp only at hki hpl hperm hsrt
    by_cases hk0 : k = 0
    · have hst := srt_stop hsrt hki (.inl hk0)
      subst hk0
      clear hK2 hsrt
      repeat' (first | with_reducible refine pws_seq ?_ | ((with_reducible refine pws_regk fun K' S hK' hS => ?_); simp [argSlots, *]) | ((with_reducible refine Goes.go hK' ?_); clear hK' hS; clear K' S) | ((with_reducible refine pws_false ?_ ?_); (· simp; done)) | with_reducible refine blk_normal ?_ | with_reducible refine blk_same ?_ | with_reducible refine thenQ_exit ?_ | with_reducible refine thenQ_normal ?_ | with_reducible refine pws_nil ?_ | with_reducible refine pws_exit ?_ | ((with_reducible refine pws_drawk [12] [0, 1, 2, 3, 4, 5, 6, 7, 8, 9, 10, 11, 12, 13] [] ?_ fun K' S hK' hS => ?_); (· decide +kernel); simp [argSlots, *]) | ((with_reducible refine GoesD.go hS ?_); clear hK' hS; clear K' S) | ((with_reducible refine pwd_off (eff := [12]) (i := 12) (c := [11, 10, 9, 8, 7, 6, 5, 4, 3, 2, 1, 0]) (c' := []) (o := ?_) ?_ ?_ ?_ ?_ ?_ ?_ ?_); rotate_left 1; (· rfl); (· rfl); (· (simp [argSlots, *]; done)); (· (simp [argSlots, *]; done)); (· rfl); (· decide +kernel); refine pwd_runk fun K' S hK' hS => ?_; simp [argSlots, *]) | fail)
      refine hK _ ⟨(i + 1, p), hpl⟩ (ent_sub rfl rfl rfl (by simp [SubL, *]) (by simp [SubL, *]) (by simp) (by simp) (by simp [slotsBelow, SV.lo, belowL]) (by simp [heapBelow, ABlk.lo, SV.lo, belowL, slotsBelow])) ⟨by simp, hperm, hst⟩ (by simp; omega)
    · obtain ⟨m, hm⟩ : ∃ m : Nat, (k : Int) - 1 = m := ⟨k - 1, by omega⟩
      have hw0 := wrap64_id (n := (m : Int)) (by omega)
      have hk1 : 0 < k := by omega
      have hmk : k - 1 = m := by omega
      have hkp : k < p.length := by omega
      have hmp : m < p.length := by omega
      have hkl : k < l.length := by omega
      have hml : m < l.length := by omega
      have e1 := el_get hkp
      have e2 := el_get hmp
      cases hlt : lexLt p[k] p[m] with
      | true =>
        have hsw := srt_swap hsrt hk1 hkp hki (by rw [hmk, e1, e2]; exact hlt)
        have hpw := (swapL_perm hk1 hkp).trans hperm
        have hps := psets_swap hmk hkp hmp
        have hlen : (swapL p k).length = l.length := swapL_len.trans hpl
        have hsw' : SrtBut (swapL p k) i m := hmk ▸ hsw
        have hlo := less_ok p[k] p[m]
        rw [hlt] at hlo
        have hgs : ∀ h : m < ((psets p).set k [PV.sl 1 (ints p[m])]).length, ((psets p).set k [PV.sl 1 (ints p[m])])[m]'h = [PV.sl 1 (ints p[m])] := fun h => by
          rw [List.getElem_set, if_neg (by omega)]
          simp
        clear hK hsrt hsw hmk e1 e2
        repeat' (first | with_reducible refine pws_seq ?_ | with_reducible refine pws_skip ?_ | with_reducible refine pws_block ?_ | ((with_reducible refine pws_regk fun K' S hK' hS => ?_); simp [argSlots, *]) | ((with_reducible refine Goes.go hK' ?_); clear hK' hS; clear K' S) | ((with_reducible refine pws_true ?_ ?_); (· simp; done)) | with_reducible refine blk_normal ?_ | with_reducible refine thenQ_normal ?_ | with_reducible refine pws_nil ?_ | ((with_reducible refine pws_drawk [12] [0, 1, 2, 3, 4, 5, 6, 7, 8, 9, 10, 11, 12, 13] [] ?_ fun K' S hK' hS => ?_); (· decide +kernel); simp [argSlots, *]) | ((with_reducible refine GoesD.go hS ?_); clear hK' hS; clear K' S) | ((with_reducible refine pwd_callk (eff := [12]) (i := 12) (c := [11, 10, 9, 8, 7, 6, 5, 4, 3, 2, 1, 0]) (c' := []) (o := ?_) (cl := ?_) (x := ?_) (f := ?_) (svs := ?_) (cs := ?_) (Qr := ?_) true ?_ ?_ ?_ ?_ ?_ ?_ ?_ ?_ ?_ ?_ ?_ ?_ ?_); rotate_left 7; (· rfl); (· rfl); (· (simp [argSlots, *]; done)); (· (simp [argSlots, *]; done)); (· decide +kernel); (· rfl); (· rfl); (· (simp; with_reducible rfl)); (· (simp; with_reducible rfl)); (· first | (simp [bors, bor]; with_reducible rfl) | (simp [bors, bor, *]; with_reducible rfl)); (· rfl); (· ((with_reducible refine hlo))); (rintro sv hsv hsc; clear hsc; obtain rfl := hsv; refine ⟨(by first | (intro _; rfl) | (intro h; cases h)), ?_⟩; refine pwd_runk fun K' S hK' hS => ?_; simp [argSlots, *])) | fail)
        refine hK2 _ ⟨(m, swapL p k), by simp; omega, hlen⟩ (ent_sub rfl rfl rfl (by simp [SubL, *]) (by simp [SubL, *]) (by simp) (by simp) (by simp [slotsBelow, SV.lo, belowL]) (by simp [heapBelow, ABlk.lo, SV.lo, belowL, slotsBelow])) ⟨hpw, hsw'⟩ (by simp; omega)
      | false =>
        have hst := srt_stop hsrt hki (.inr (by rw [hmk, e1, e2]; exact hlt))
        have hlo := less_ok p[k] p[m]
        rw [hlt] at hlo
        clear hK2 hsrt hmk e1 e2
        repeat' (first | with_reducible refine pws_seq ?_ | ((with_reducible refine pws_regk fun K' S hK' hS => ?_); simp [argSlots, *]) | ((with_reducible refine Goes.go hK' ?_); clear hK' hS; clear K' S) | ((with_reducible refine pws_false ?_ ?_); (· simp; done)) | with_reducible refine blk_normal ?_ | with_reducible refine blk_same ?_ | with_reducible refine thenQ_exit ?_ | with_reducible refine thenQ_normal ?_ | with_reducible refine pws_nil ?_ | with_reducible refine pws_exit ?_ | ((with_reducible refine pws_drawk [12] [0, 1, 2, 3, 4, 5, 6, 7, 8, 9, 10, 11, 12, 13] [] ?_ fun K' S hK' hS => ?_); (· decide +kernel); simp [argSlots, *]) | ((with_reducible refine GoesD.go hS ?_); clear hK' hS; clear K' S) | ((with_reducible refine pwd_callk (eff := [12]) (i := 12) (c := [11, 10, 9, 8, 7, 6, 5, 4, 3, 2, 1, 0]) (c' := []) (o := ?_) (cl := ?_) (x := ?_) (f := ?_) (svs := ?_) (cs := ?_) (Qr := ?_) true ?_ ?_ ?_ ?_ ?_ ?_ ?_ ?_ ?_ ?_ ?_ ?_ ?_); rotate_left 7; (· rfl); (· rfl); (· (simp [argSlots, *]; done)); (· (simp [argSlots, *]; done)); (· decide +kernel); (· rfl); (· rfl); (· (simp; with_reducible rfl)); (· (simp; with_reducible rfl)); (· first | (simp [bors, bor]; with_reducible rfl) | (simp [bors, bor, *]; with_reducible rfl)); (· rfl); (· ((with_reducible refine hlo))); (rintro sv hsv hsc; clear hsc; obtain rfl := hsv; refine ⟨(by first | (intro _; rfl) | (intro h; cases h)), ?_⟩; refine pwd_runk fun K' S hK' hS => ?_; simp [argSlots, *])) | fail)
        refine hK _ ⟨(i + 1, p), hpl⟩ (ent_sub rfl rfl rfl (by simp [SubL, *]) (by simp [SubL, *]) (by simp) (by simp) (by simp [slotsBelow, SV.lo, belowL]) (by simp [heapBelow, ABlk.lo, SV.lo, belowL, slotsBelow])) ⟨by simp, hperm, hst⟩ (by simp; omega)
  · have hso : o = lsort l := srt_done hperm fun a b hab hb => hsrt a b hab (by omega)
    clear hK hperm hsrt
    subst hso
    have htk : List.take l.length (psets (lsort l)) = psets (lsort l) := List.take_of_length_le (by simp [hol])
    repeat' (first | with_reducible refine pws_seq ?_ | ((with_reducible refine pws_regk fun K' S hK' hS => ?_); simp [argSlots, *]) | ((with_reducible refine Goes.go hK' ?_); clear hK' hS; clear K' S) | ((with_reducible refine pws_false ?_ ?_); (· simp; done)) | with_reducible refine pws_ret ?_ | with_reducible refine blk_same ?_ | with_reducible refine thenQ_exit ?_ | with_reducible refine pws_exit ?_)
    refine finC_ret (vs := ?_) [.loc 1 0 1 0 l.length] (.inr rfl) rfl ?_ ?_ ?_
    rotate_left
    · simp [Tryz.results44, resL, resOf]; rfl
    · simp [wrapRes, cv, SV.const, hol]
    · simp [wrapRes, cv, hol, htk]
      (repeat' (first | with_reducible exact SLe.refl _))
end Go.Proofs.T1
namespace Go.Proofs.T1
open Go.Vc
open Tryz
set_option linter.unusedSimpArgs false
set_option linter.unusedVariables false
set_option maxHeartbeats 4000000
set_option maxRecDepth 20000
attribute [local simp] runD_nil runD_cons runDO runDG runDV stabs stabO stabG runK_nil runK_cons runG_t runG_f runS_some runS_none gate dstOf step2 step1 vq vop vlook mput mfind isKeyB keq fin1 hbox halloc hstore hbuild hbuildSlice happend hmake vslice bound vbuild partsOf elemsOf inOrder topvs toPV svCells splice srcOf isNil St.ev St.evs St.fits St.put St.new St.upd St.frzs St.frz lk hset litOf vbuiltin vlen vbin vindex vfield vload rdc pvs capsOf Value.oneCell'
attribute [local simp] tsz3 tagg3 tbytes3 tint3 tzero3 tzero1_3 tsz4 tagg4 tbytes4 tbool4 tzero4 tzero1_4 tsz5 tagg5 tbytes5 tint5 tzero5 tzero1_5 tsz9 tagg9 tbytes9 tstr9 tzero9 tzero1_9 tsz22 tagg22 tel22 tbytes22 tzero22 tzero1_22 tsz23 tagg23 tel23 tbytes23 tzero23 tzero1_23 tsz24 tagg24 tel24 tbytes24 tzero24 tzero1_24 tsz25 tagg25 tbytes25 tzero25 tzero1_25 tsz29 tagg29 tel29 tbytes29 tzero29 tzero1_29 tsz30 tagg30 tel30 tbytes30 tzero30 tzero1_30 tsz32 tagg32 tbytes32 tzero32 foff32_0 foff32_1 foff32_2 foff32_3 foff32_4 foff32_5 foff32_6 foff32_7 foff32_8 foff32_9 tsz33 tagg33 tel33 tbytes33 tzero33 tzero1_33 tsz34 tagg34 tbytes34 tint34 tzero34 tzero1_34 tsz38 tagg38 tbytes38 tzero38 foff38_0 foff38_1 foff38_2 tsz47 tagg47 tel47 tbytes47 tzero47 tzero1_47 tsz52 tagg52 tel52 tbytes52 tzero52 tzero1_52 tsz54 tagg54 tbytes54 tzero54 foff54_0 foff54_1 foff54_2 foff54_3 foff54_4 foff54_5 tsz79 tagg79 tbytes79 tzero79 foff79_0 foff79_1 foff79_2 tsz117 tagg117 tbytes117 tzero117 foff117_0 foff117_1 foff117_2 tsz119 tagg119 tbytes119 tzero119 foff119_0 foff119_1 tsz121 tagg121 tbytes121 tzero121 foff121_0 foff121_1 foff121_2 foff121_3 tsz129 tagg129 tbytes129 tzero129 tzero1_129 tsz130 tagg130 tbytes130 tzero130 tzero1_130 tsz132 tagg132 tbytes132 tzero132 tzero1_132 tsz206 tagg206 tbytes206 tzero206 tzero1_206 mtype206 tsz208 tagg208 tbytes208 tsz217 tagg217 tel217 tbytes217 tzero217 tzero1_217 tsz220 tagg220 tbytes220 tzero220 foff220_0 foff220_1 tsz235 tagg235 tel235 tbytes235 tzero235 tzero1_235 tsz256 tagg256 tbytes256 tzero256 tzero1_256 mtype256 tsz351 tagg351 tbytes351 tzero351 tsz2 tagg2 tbytes2 tint2 tzero2 tzero1_2 tsz291 tagg291 tbytes291 tint291 tzero291 tzero1_291 sized32 places32_0 places32_1 places32_2 places32_3 places32_4 places32_5 places32_6 places32_7 places32_8 places32_9 sized38 places38_0 places38_1 places38_2 sized54 places54_0 places54_1 places54_2 places54_3 places54_4 places54_5 sized79 places79_0 places79_1 places79_2 sized117 places117_0 places117_1 places117_2 sized119 places119_0 places119_1 sized121 places121_0 places121_1 places121_2 places121_3 sized220 places220_0 places220_1
attribute [local simp] V.c V.z Sd.c Tst.c Fx.c Rl.c Fc.c Gr.c wrap1f take_map_len take_map_len1 wrap1 wrap2 wrap3
theorem enters43 : Enters Tryz.prog 43 := enters_mk Tryz.func43 (by kernel_rfl) (by kernel_rfl)
end Go.Proofs.T1
namespace Go.Proofs.T1
open Go.Vc
open Tryz
set_option linter.unusedSimpArgs false
set_option linter.unusedVariables false
set_option maxHeartbeats 4000000
set_option maxRecDepth 20000
attribute [local simp] runD_nil runD_cons runDO runDG runDV stabs stabO stabG runK_nil runK_cons runG_t runG_f runS_some runS_none gate dstOf step2 step1 vq vop vlook mput mfind isKeyB keq fin1 hbox halloc hstore hbuild hbuildSlice happend hmake vslice bound vbuild partsOf elemsOf inOrder topvs toPV svCells splice srcOf isNil St.ev St.evs St.fits St.put St.new St.upd St.frzs St.frz lk hset litOf vbuiltin vlen vbin vindex vfield vload rdc pvs capsOf Value.oneCell'
attribute [local simp] tsz3 tagg3 tbytes3 tint3 tzero3 tzero1_3 tsz4 tagg4 tbytes4 tbool4 tzero4 tzero1_4 tsz5 tagg5 tbytes5 tint5 tzero5 tzero1_5 tsz9 tagg9 tbytes9 tstr9 tzero9 tzero1_9 tsz22 tagg22 tel22 tbytes22 tzero22 tzero1_22 tsz23 tagg23 tel23 tbytes23 tzero23 tzero1_23 tsz24 tagg24 tel24 tbytes24 tzero24 tzero1_24 tsz25 tagg25 tbytes25 tzero25 tzero1_25 tsz29 tagg29 tel29 tbytes29 tzero29 tzero1_29 tsz30 tagg30 tel30 tbytes30 tzero30 tzero1_30 tsz32 tagg32 tbytes32 tzero32 foff32_0 foff32_1 foff32_2 foff32_3 foff32_4 foff32_5 foff32_6 foff32_7 foff32_8 foff32_9 tsz33 tagg33 tel33 tbytes33 tzero33 tzero1_33 tsz34 tagg34 tbytes34 tint34 tzero34 tzero1_34 tsz38 tagg38 tbytes38 tzero38 foff38_0 foff38_1 foff38_2 tsz47 tagg47 tel47 tbytes47 tzero47 tzero1_47 tsz52 tagg52 tel52 tbytes52 tzero52 tzero1_52 tsz54 tagg54 tbytes54 tzero54 foff54_0 foff54_1 foff54_2 foff54_3 foff54_4 foff54_5 tsz79 tagg79 tbytes79 tzero79 foff79_0 foff79_1 foff79_2 tsz117 tagg117 tbytes117 tzero117 foff117_0 foff117_1 foff117_2 tsz119 tagg119 tbytes119 tzero119 foff119_0 foff119_1 tsz121 tagg121 tbytes121 tzero121 foff121_0 foff121_1 foff121_2 foff121_3 tsz129 tagg129 tbytes129 tzero129 tzero1_129 tsz130 tagg130 tbytes130 tzero130 tzero1_130 tsz132 tagg132 tbytes132 tzero132 tzero1_132 tsz206 tagg206 tbytes206 tzero206 tzero1_206 mtype206 tsz208 tagg208 tbytes208 tsz217 tagg217 tel217 tbytes217 tzero217 tzero1_217 tsz220 tagg220 tbytes220 tzero220 foff220_0 foff220_1 tsz235 tagg235 tel235 tbytes235 tzero235 tzero1_235 tsz256 tagg256 tbytes256 tzero256 tzero1_256 mtype256 tsz351 tagg351 tbytes351 tzero351 tsz2 tagg2 tbytes2 tint2 tzero2 tzero1_2 tsz291 tagg291 tbytes291 tint291 tzero291 tzero1_291 sized32 places32_0 places32_1 places32_2 places32_3 places32_4 places32_5 places32_6 places32_7 places32_8 places32_9 sized38 places38_0 places38_1 places38_2 sized54 places54_0 places54_1 places54_2 places54_3 places54_4 places54_5 sized79 places79_0 places79_1 places79_2 sized117 places117_0 places117_1 places117_2 sized119 places119_0 places119_1 sized121 places121_0 places121_1 places121_2 places121_3 sized220 places220_0 places220_1
attribute [local simp] V.c V.z Sd.c Tst.c Fx.c Rl.c Fc.c Gr.c wrap1f take_map_len take_map_len1 wrap1 wrap2 wrap3
def turnAt (n : Int) (s : List Int) (j : Nat) : List Int := (s.reverse.take j).map fun x => n - 1 - x
theorem turnAt_succ {n : Int} {s : List Int} {m j : Nat} (h : m + j + 1 = s.length) : turnAt n s (j + 1) = turnAt n s j ++ [n - 1 - s[m]] := by
  unfold turnAt
  rw [List.take_succ_eq_append_getElem (by simp; omega), List.map_append]
  have : s.reverse[j]'(by simp; omega) = s[m] := by
    rw [List.getElem_reverse]
    congr 1
    omega
  simp [this]
theorem turnAt_len {n : Int} {s : List Int} {j : Nat} (h : j ≤ s.length) : (turnAt n s j).length = j := by simp [turnAt]; omega
theorem turnAt_all (n : Int) (s : List Int) : turnAt n s s.length = turn n s := by
  unfold turnAt turn
  rw [← List.length_reverse, List.take_length]
theorem turned_ok (n : Nat) (s : List Int) (hs : ∀ x ∈ s, 0 ≤ x ∧ x < n) (hn : n ≤ 1000) (hl : s.length ≤ 1000) : CC Tryz.prog 43 [sint n, .pv (.sl 1 (ints s))] (fun sv => sv = .pv (.sl 1 (ints (turn n s)))) := by
  refine CC.res ?_
  refine cc_of_pw Tryz.func43 rfl enters43 Tryz.ntmps43 (by simp) (pw_of_pws ?_)
  have hw0 : IntKind.i64.wrap ((s.length : Int) - 1) = (s.length : Int) - 1 := wrap64_id (by omega)
  have hwn : IntKind.i64.wrap ((n : Int) - 1) = (n : Int) - 1 := wrap64_id (by omega)
  repeat' (first | with_reducible refine pws_seq ?_ | with_reducible refine pws_block ?_ | ((with_reducible refine pws_regk fun K' S hK' hS => ?_); simp [argSlots, *]) | ((with_reducible refine Goes.go hK' ?_); clear hK' hS; clear K' S))
  refine pws_ent (ent_adopts (v := 5) (t := 3) (es := 1) rfl (by decide)) ?_
  refine pws_loop (α := { v : Nat × Nat // v.1 ≤ s.length }) (fun v => { n := 25, nx := 1, s := [(6, sint ((s.length : Int) - 1 - v.1.1)), (5, .loc 1 0 v.1.2 0 (turnAt n s v.1.1).length), (0, sint n), (1, .pv (.sl 1 (ints s)))], h := [(0, .arr 3 1 v.1.2 false (ints (turnAt n s v.1.1)))], d := [] }) (fun v => s.length - v.1.1) (fun _ => True) ⟨(0, 0), by simp⟩ trivial (ent_sub rfl rfl rfl (by simp [SubL, turnAt, *]) (by simp [SubL, turnAt, *]) (by simp) (by simp) (by simp [slotsBelow, SV.lo, belowL]) (by simp [heapBelow, ABlk.lo, SV.lo, belowL, slotsBelow])) ?_
  rintro ⟨⟨j, g⟩, hj⟩ _ K hK
  simp only at hj
  have htl := turnAt_len (n := n) hj
  by_cases h1 : j < s.length
  · obtain ⟨m, hm⟩ : ∃ m, m + j + 1 = s.length := ⟨s.length - 1 - j, by omega⟩
    have hmi : (s.length : Int) - 1 - j = m := by omega
    have hml : m < s.length := by omega
    have hx := hs s[m] (List.getElem_mem hml)
    have hws : IntKind.i64.wrap ((n : Int) - 1 - s[m]) = (n : Int) - 1 - s[m] := wrap64_id (by omega)
    have hwm : IntKind.i64.wrap ((m : Int) - 1) = (s.length : Int) - 1 - ((j + 1 : Nat) : Int) := by rw [wrap64_id (by omega)]; omega
    have hsc := turnAt_succ (n := n) hm
    have hb1 : ((turnAt n s j).length + 1) * 8 ≤ 140737488355328 := by omega
    have hm0 : (0 : Int) ≤ m := by omega
    rw [hmi]
    clear hw0 hx htl hmi
    generalize turnAt n s j = G at *
    repeat' (first | with_reducible refine pws_seq ?_ | with_reducible refine pws_skip ?_ | with_reducible refine pws_block ?_ | ((with_reducible refine pws_regk fun K' S hK' hS => ?_); simp [argSlots, *]) | ((with_reducible refine Goes.go hK' ?_); clear hK' hS; clear K' S) | ((with_reducible refine pws_true ?_ ?_); (· simp; done)) | with_reducible refine blk_normal ?_ | with_reducible refine thenQ_normal ?_ | with_reducible refine pws_nil ?_)
    refine hK _ ⟨(j + 1, g + 1), by simp; omega⟩ (ent_sub rfl rfl rfl (by simp [SubL, hsc, hwm, *]) (by simp [SubL, hsc, *]) (by simp) (by simp) (by simp [slotsBelow, SV.lo, belowL]) (by simp [heapBelow, ABlk.lo, SV.lo, belowL, slotsBelow])) trivial (by simp; omega)
  · obtain rfl : j = s.length := by omega
    have hm0 : ¬ (0 : Int) ≤ (s.length : Int) - 1 - s.length := by omega
    rw [turnAt_all] at htl ⊢
    clear hK htl
    generalize (s.length : Int) - 1 - s.length = z at *
    repeat' (first | with_reducible refine pws_seq ?_ | ((with_reducible refine pws_regk fun K' S hK' hS => ?_); simp [argSlots, *]) | ((with_reducible refine Goes.go hK' ?_); clear hK' hS; clear K' S) | ((with_reducible refine pws_false ?_ ?_); (· simp; done)) | with_reducible refine pws_ret ?_ | with_reducible refine blk_same ?_ | with_reducible refine thenQ_exit ?_ | with_reducible refine pws_exit ?_)
    refine finC_ret (vs := ?_) [.loc 1 0 g 0 (turn n s).length] (.inr rfl) rfl ?_ ?_ ?_
    rotate_left
    · simp [Tryz.results43, resL, resOf]; rfl
    · simp [wrapRes, cv, SV.const]
    · simp [wrapRes, cv]
      (repeat' (first | with_reducible exact SLe.refl _))
theorem setsEq_self (a : List (List Int)) : setsEq a a = true := by
  unfold setsEq
  simp only [decide_true, Bool.true_and, List.all_eq_true]
  intro q hq
  have : q.1 = q.2 := by
    obtain ⟨i, hi, rfl⟩ := List.mem_iff_getElem.1 hq
    simp [List.getElem_zip]
  rw [this, lexLt_irrefl]
  rfl
end Go.Proofs.T1
namespace Go.Proofs.T1
open Go.Vc
open Tryz
set_option linter.unusedSimpArgs false
set_option linter.unusedVariables false
set_option maxHeartbeats 4000000
set_option maxRecDepth 20000
attribute [local simp] runD_nil runD_cons runDO runDG runDV stabs stabO stabG runK_nil runK_cons runG_t runG_f runS_some runS_none gate dstOf step2 step1 vq vop vlook mput mfind isKeyB keq fin1 hbox halloc hstore hbuild hbuildSlice happend hmake vslice bound vbuild partsOf elemsOf inOrder topvs toPV svCells splice srcOf isNil St.ev St.evs St.fits St.put St.new St.upd St.frzs St.frz lk hset litOf vbuiltin vlen vbin vindex vfield vload rdc pvs capsOf Value.oneCell'
attribute [local simp] tsz3 tagg3 tbytes3 tint3 tzero3 tzero1_3 tsz4 tagg4 tbytes4 tbool4 tzero4 tzero1_4 tsz5 tagg5 tbytes5 tint5 tzero5 tzero1_5 tsz9 tagg9 tbytes9 tstr9 tzero9 tzero1_9 tsz22 tagg22 tel22 tbytes22 tzero22 tzero1_22 tsz23 tagg23 tel23 tbytes23 tzero23 tzero1_23 tsz24 tagg24 tel24 tbytes24 tzero24 tzero1_24 tsz25 tagg25 tbytes25 tzero25 tzero1_25 tsz29 tagg29 tel29 tbytes29 tzero29 tzero1_29 tsz30 tagg30 tel30 tbytes30 tzero30 tzero1_30 tsz32 tagg32 tbytes32 tzero32 foff32_0 foff32_1 foff32_2 foff32_3 foff32_4 foff32_5 foff32_6 foff32_7 foff32_8 foff32_9 tsz33 tagg33 tel33 tbytes33 tzero33 tzero1_33 tsz34 tagg34 tbytes34 tint34 tzero34 tzero1_34 tsz38 tagg38 tbytes38 tzero38 foff38_0 foff38_1 foff38_2 tsz47 tagg47 tel47 tbytes47 tzero47 tzero1_47 tsz52 tagg52 tel52 tbytes52 tzero52 tzero1_52 tsz54 tagg54 tbytes54 tzero54 foff54_0 foff54_1 foff54_2 foff54_3 foff54_4 foff54_5 tsz79 tagg79 tbytes79 tzero79 foff79_0 foff79_1 foff79_2 tsz117 tagg117 tbytes117 tzero117 foff117_0 foff117_1 foff117_2 tsz119 tagg119 tbytes119 tzero119 foff119_0 foff119_1 tsz121 tagg121 tbytes121 tzero121 foff121_0 foff121_1 foff121_2 foff121_3 tsz129 tagg129 tbytes129 tzero129 tzero1_129 tsz130 tagg130 tbytes130 tzero130 tzero1_130 tsz132 tagg132 tbytes132 tzero132 tzero1_132 tsz206 tagg206 tbytes206 tzero206 tzero1_206 mtype206 tsz208 tagg208 tbytes208 tsz217 tagg217 tel217 tbytes217 tzero217 tzero1_217 tsz220 tagg220 tbytes220 tzero220 foff220_0 foff220_1 tsz235 tagg235 tel235 tbytes235 tzero235 tzero1_235 tsz256 tagg256 tbytes256 tzero256 tzero1_256 mtype256 tsz351 tagg351 tbytes351 tzero351 tsz2 tagg2 tbytes2 tint2 tzero2 tzero1_2 tsz291 tagg291 tbytes291 tint291 tzero291 tzero1_291 sized32 places32_0 places32_1 places32_2 places32_3 places32_4 places32_5 places32_6 places32_7 places32_8 places32_9 sized38 places38_0 places38_1 places38_2 sized54 places54_0 places54_1 places54_2 places54_3 places54_4 places54_5 sized79 places79_0 places79_1 places79_2 sized117 places117_0 places117_1 places117_2 sized119 places119_0 places119_1 sized121 places121_0 places121_1 places121_2 places121_3 sized220 places220_0 places220_1
attribute [local simp] V.c V.z Sd.c Tst.c Fx.c Rl.c Fc.c Gr.c wrap1f take_map_len take_map_len1 wrap1 wrap2 wrap3
end Go.Proofs.T1
namespace Go.Proofs.T1
open Go.Vc
open Tryz
set_option linter.unusedSimpArgs false
set_option linter.unusedVariables false
set_option maxHeartbeats 4000000
set_option maxRecDepth 20000
attribute [local simp] runD_nil runD_cons runDO runDG runDV stabs stabO stabG runK_nil runK_cons runG_t runG_f runS_some runS_none gate dstOf step2 step1 vq vop vlook mput mfind isKeyB keq fin1 hbox halloc hstore hbuild hbuildSlice happend hmake vslice bound vbuild partsOf elemsOf inOrder topvs toPV svCells splice srcOf isNil St.ev St.evs St.fits St.put St.new St.upd St.frzs St.frz lk hset litOf vbuiltin vlen vbin vindex vfield vload rdc pvs capsOf Value.oneCell'
attribute [local simp] tsz3 tagg3 tbytes3 tint3 tzero3 tzero1_3 tsz4 tagg4 tbytes4 tbool4 tzero4 tzero1_4 tsz5 tagg5 tbytes5 tint5 tzero5 tzero1_5 tsz9 tagg9 tbytes9 tstr9 tzero9 tzero1_9 tsz22 tagg22 tel22 tbytes22 tzero22 tzero1_22 tsz23 tagg23 tel23 tbytes23 tzero23 tzero1_23 tsz24 tagg24 tel24 tbytes24 tzero24 tzero1_24 tsz25 tagg25 tbytes25 tzero25 tzero1_25 tsz29 tagg29 tel29 tbytes29 tzero29 tzero1_29 tsz30 tagg30 tel30 tbytes30 tzero30 tzero1_30 tsz32 tagg32 tbytes32 tzero32 foff32_0 foff32_1 foff32_2 foff32_3 foff32_4 foff32_5 foff32_6 foff32_7 foff32_8 foff32_9 tsz33 tagg33 tel33 tbytes33 tzero33 tzero1_33 tsz34 tagg34 tbytes34 tint34 tzero34 tzero1_34 tsz38 tagg38 tbytes38 tzero38 foff38_0 foff38_1 foff38_2 tsz47 tagg47 tel47 tbytes47 tzero47 tzero1_47 tsz52 tagg52 tel52 tbytes52 tzero52 tzero1_52 tsz54 tagg54 tbytes54 tzero54 foff54_0 foff54_1 foff54_2 foff54_3 foff54_4 foff54_5 tsz79 tagg79 tbytes79 tzero79 foff79_0 foff79_1 foff79_2 tsz117 tagg117 tbytes117 tzero117 foff117_0 foff117_1 foff117_2 tsz119 tagg119 tbytes119 tzero119 foff119_0 foff119_1 tsz121 tagg121 tbytes121 tzero121 foff121_0 foff121_1 foff121_2 foff121_3 tsz129 tagg129 tbytes129 tzero129 tzero1_129 tsz130 tagg130 tbytes130 tzero130 tzero1_130 tsz132 tagg132 tbytes132 tzero132 tzero1_132 tsz206 tagg206 tbytes206 tzero206 tzero1_206 mtype206 tsz208 tagg208 tbytes208 tsz217 tagg217 tel217 tbytes217 tzero217 tzero1_217 tsz220 tagg220 tbytes220 tzero220 foff220_0 foff220_1 tsz235 tagg235 tel235 tbytes235 tzero235 tzero1_235 tsz256 tagg256 tbytes256 tzero256 tzero1_256 mtype256 tsz351 tagg351 tbytes351 tzero351 tsz2 tagg2 tbytes2 tint2 tzero2 tzero1_2 tsz291 tagg291 tbytes291 tint291 tzero291 tzero1_291 sized32 places32_0 places32_1 places32_2 places32_3 places32_4 places32_5 places32_6 places32_7 places32_8 places32_9 sized38 places38_0 places38_1 places38_2 sized54 places54_0 places54_1 places54_2 places54_3 places54_4 places54_5 sized79 places79_0 places79_1 places79_2 sized117 places117_0 places117_1 places117_2 sized119 places119_0 places119_1 sized121 places121_0 places121_1 places121_2 places121_3 sized220 places220_0 places220_1
attribute [local simp] V.c V.z Sd.c Tst.c Fx.c Rl.c Fc.c Gr.c wrap1f take_map_len take_map_len1 wrap1 wrap2 wrap3
theorem dangL_len (R : List Rl) (F : List Fc) : (dangL R F).length ≤ F.length := by
  have h : (allI F.length).length = F.length := by simp [allI]
  have : (dangL R F).length ≤ (allI F.length).length := by unfold dangL; exact List.length_filter_le _ _
  omega
end Go.Proofs.T1
namespace Go.Proofs.T1
open Go.Vc
open Tryz
set_option linter.unusedSimpArgs false
set_option linter.unusedVariables false
set_option maxHeartbeats 4000000
set_option maxRecDepth 20000
attribute [local simp] runD_nil runD_cons runDO runDG runDV stabs stabO stabG runK_nil runK_cons runG_t runG_f runS_some runS_none gate dstOf step2 step1 vq vop vlook mput mfind isKeyB keq fin1 hbox halloc hstore hbuild hbuildSlice happend hmake vslice bound vbuild partsOf elemsOf inOrder topvs toPV svCells splice srcOf isNil St.ev St.evs St.fits St.put St.new St.upd St.frzs St.frz lk hset litOf vbuiltin vlen vbin vindex vfield vload rdc pvs capsOf Value.oneCell'
attribute [local simp] tsz3 tagg3 tbytes3 tint3 tzero3 tzero1_3 tsz4 tagg4 tbytes4 tbool4 tzero4 tzero1_4 tsz5 tagg5 tbytes5 tint5 tzero5 tzero1_5 tsz9 tagg9 tbytes9 tstr9 tzero9 tzero1_9 tsz22 tagg22 tel22 tbytes22 tzero22 tzero1_22 tsz23 tagg23 tel23 tbytes23 tzero23 tzero1_23 tsz24 tagg24 tel24 tbytes24 tzero24 tzero1_24 tsz25 tagg25 tbytes25 tzero25 tzero1_25 tsz29 tagg29 tel29 tbytes29 tzero29 tzero1_29 tsz30 tagg30 tel30 tbytes30 tzero30 tzero1_30 tsz32 tagg32 tbytes32 tzero32 foff32_0 foff32_1 foff32_2 foff32_3 foff32_4 foff32_5 foff32_6 foff32_7 foff32_8 foff32_9 tsz33 tagg33 tel33 tbytes33 tzero33 tzero1_33 tsz34 tagg34 tbytes34 tint34 tzero34 tzero1_34 tsz38 tagg38 tbytes38 tzero38 foff38_0 foff38_1 foff38_2 tsz47 tagg47 tel47 tbytes47 tzero47 tzero1_47 tsz52 tagg52 tel52 tbytes52 tzero52 tzero1_52 tsz54 tagg54 tbytes54 tzero54 foff54_0 foff54_1 foff54_2 foff54_3 foff54_4 foff54_5 tsz79 tagg79 tbytes79 tzero79 foff79_0 foff79_1 foff79_2 tsz117 tagg117 tbytes117 tzero117 foff117_0 foff117_1 foff117_2 tsz119 tagg119 tbytes119 tzero119 foff119_0 foff119_1 tsz121 tagg121 tbytes121 tzero121 foff121_0 foff121_1 foff121_2 foff121_3 tsz129 tagg129 tbytes129 tzero129 tzero1_129 tsz130 tagg130 tbytes130 tzero130 tzero1_130 tsz132 tagg132 tbytes132 tzero132 tzero1_132 tsz206 tagg206 tbytes206 tzero206 tzero1_206 mtype206 tsz208 tagg208 tbytes208 tsz217 tagg217 tel217 tbytes217 tzero217 tzero1_217 tsz220 tagg220 tbytes220 tzero220 foff220_0 foff220_1 tsz235 tagg235 tel235 tbytes235 tzero235 tzero1_235 tsz256 tagg256 tbytes256 tzero256 tzero1_256 mtype256 tsz351 tagg351 tbytes351 tzero351 tsz2 tagg2 tbytes2 tint2 tzero2 tzero1_2 tsz291 tagg291 tbytes291 tint291 tzero291 tzero1_291 sized32 places32_0 places32_1 places32_2 places32_3 places32_4 places32_5 places32_6 places32_7 places32_8 places32_9 sized38 places38_0 places38_1 places38_2 sized54 places54_0 places54_1 places54_2 places54_3 places54_4 places54_5 sized79 places79_0 places79_1 places79_2 sized117 places117_0 places117_1 places117_2 sized119 places119_0 places119_1 sized121 places121_0 places121_1 places121_2 places121_3 sized220 places220_0 places220_1
attribute [local simp] V.c V.z Sd.c Tst.c Fx.c Rl.c Fc.c Gr.c wrap1f take_map_len take_map_len1 wrap1 wrap2 wrap3
end Go.Proofs.T1
namespace Go.Proofs.T1
open Go.Vc
open Tryz
set_option linter.unusedSimpArgs false
set_option linter.unusedVariables false
set_option maxHeartbeats 4000000
set_option maxRecDepth 20000
attribute [local simp] runD_nil runD_cons runDO runDG runDV stabs stabO stabG runK_nil runK_cons runG_t runG_f runS_some runS_none gate dstOf step2 step1 vq vop vlook mput mfind isKeyB keq fin1 hbox halloc hstore hbuild hbuildSlice happend hmake vslice bound vbuild partsOf elemsOf inOrder topvs toPV svCells splice srcOf isNil St.ev St.evs St.fits St.put St.new St.upd St.frzs St.frz lk hset litOf vbuiltin vlen vbin vindex vfield vload rdc pvs capsOf Value.oneCell'
attribute [local simp] tsz3 tagg3 tbytes3 tint3 tzero3 tzero1_3 tsz4 tagg4 tbytes4 tbool4 tzero4 tzero1_4 tsz5 tagg5 tbytes5 tint5 tzero5 tzero1_5 tsz9 tagg9 tbytes9 tstr9 tzero9 tzero1_9 tsz22 tagg22 tel22 tbytes22 tzero22 tzero1_22 tsz23 tagg23 tel23 tbytes23 tzero23 tzero1_23 tsz24 tagg24 tel24 tbytes24 tzero24 tzero1_24 tsz25 tagg25 tbytes25 tzero25 tzero1_25 tsz29 tagg29 tel29 tbytes29 tzero29 tzero1_29 tsz30 tagg30 tel30 tbytes30 tzero30 tzero1_30 tsz32 tagg32 tbytes32 tzero32 foff32_0 foff32_1 foff32_2 foff32_3 foff32_4 foff32_5 foff32_6 foff32_7 foff32_8 foff32_9 tsz33 tagg33 tel33 tbytes33 tzero33 tzero1_33 tsz34 tagg34 tbytes34 tint34 tzero34 tzero1_34 tsz38 tagg38 tbytes38 tzero38 foff38_0 foff38_1 foff38_2 tsz47 tagg47 tel47 tbytes47 tzero47 tzero1_47 tsz52 tagg52 tel52 tbytes52 tzero52 tzero1_52 tsz54 tagg54 tbytes54 tzero54 foff54_0 foff54_1 foff54_2 foff54_3 foff54_4 foff54_5 tsz79 tagg79 tbytes79 tzero79 foff79_0 foff79_1 foff79_2 tsz117 tagg117 tbytes117 tzero117 foff117_0 foff117_1 foff117_2 tsz119 tagg119 tbytes119 tzero119 foff119_0 foff119_1 tsz121 tagg121 tbytes121 tzero121 foff121_0 foff121_1 foff121_2 foff121_3 tsz129 tagg129 tbytes129 tzero129 tzero1_129 tsz130 tagg130 tbytes130 tzero130 tzero1_130 tsz132 tagg132 tbytes132 tzero132 tzero1_132 tsz206 tagg206 tbytes206 tzero206 tzero1_206 mtype206 tsz208 tagg208 tbytes208 tsz217 tagg217 tel217 tbytes217 tzero217 tzero1_217 tsz220 tagg220 tbytes220 tzero220 foff220_0 foff220_1 tsz235 tagg235 tel235 tbytes235 tzero235 tzero1_235 tsz256 tagg256 tbytes256 tzero256 tzero1_256 mtype256 tsz351 tagg351 tbytes351 tzero351 tsz2 tagg2 tbytes2 tint2 tzero2 tzero1_2 tsz291 tagg291 tbytes291 tint291 tzero291 tzero1_291 sized32 places32_0 places32_1 places32_2 places32_3 places32_4 places32_5 places32_6 places32_7 places32_8 places32_9 sized38 places38_0 places38_1 places38_2 sized54 places54_0 places54_1 places54_2 places54_3 places54_4 places54_5 sized79 places79_0 places79_1 places79_2 sized117 places117_0 places117_1 places117_2 sized119 places119_0 places119_1 sized121 places121_0 places121_1 places121_2 places121_3 sized220 places220_0 places220_1
attribute [local simp] V.c V.z Sd.c Tst.c Fx.c Rl.c Fc.c Gr.c wrap1f take_map_len take_map_len1 wrap1 wrap2 wrap3
theorem enters6 : Enters Tryz.prog 6 := enters_mk Tryz.func6 (by kernel_rfl) (by kernel_rfl)
def revAt {α : Type} (l : List α) (j : Nat) : List α := l.reverse.take j
theorem revAt_succ {α : Type} {l : List α} {m j : Nat} (h : m + j + 1 = l.length) : revAt l (j + 1) = revAt l j ++ [l[m]] := by
  unfold revAt
  rw [List.take_succ_eq_append_getElem (by simp; omega)]
  have : l.reverse[j]'(by simp; omega) = l[m] := by
    rw [List.getElem_reverse]
    congr 1
    omega
  rw [this]
theorem revAt_len {α : Type} {l : List α} {j : Nat} (h : j ≤ l.length) : (revAt l j).length = j := by simp [revAt]; omega
theorem revAt_all {α : Type} (l : List α) : revAt l l.length = l.reverse := by
  unfold revAt
  rw [← List.length_reverse, List.take_length]
def turnsTo (n : Int) (l : List (List Int)) (k : Nat) : List (List Int) := (l.take k).map (turn n)
theorem turnsTo_succ {n : Int} {l : List (List Int)} {k : Nat} (h : k < l.length) : turnsTo n l (k + 1) = turnsTo n l k ++ [turn n l[k]] := by
  unfold turnsTo
  rw [List.take_succ_eq_append_getElem h, List.map_append]
  rfl
theorem turnsTo_len {n : Int} {l : List (List Int)} {k : Nat} (h : k ≤ l.length) : (turnsTo n l k).length = k := by simp [turnsTo]; omega
theorem turnsTo_all (n : Int) (l : List (List Int)) : turnsTo n l l.length = l.map (turn n) := by unfold turnsTo; rw [List.take_length]
theorem law6_ok (R : List Rl) (F : List Fc) (which : List Bool) (n : Int) (hn : 0 ≤ n ∧ n ≤ 255) : CC Tryz.prog 6 [.pv (.sl 10 (prules R)), .pv (.sl 6 (pfacts F)), .pv (.sl 1 (pbools which)), .pv (.lit (.int .u8 n))] (fun sv => sv = sbool true) := by
  refine cc_of_pw Tryz.func6 rfl enters6 Tryz.ntmps6 (by simp) (pw_of_pws ?_)
  have hf := few_ok R F 12
  cases hq : fewQ R F 12 with
  | false =>
    rw [hq] at hf
    clear hq
    repeat' (first | with_reducible refine pws_seq ?_ | ((with_reducible refine pws_regk fun K' S hK' hS => ?_); simp [argSlots, *]) | ((with_reducible refine Goes.go hK' ?_); clear hK' hS; clear K' S) | ((with_reducible refine GoesS.go hS ?_); clear hK' hS; clear K' S) | ((with_reducible refine pws_true ?_ ?_); (· simp; done)) | with_reducible refine pws_ret ?_ | ((with_reducible refine pwl_callk (c := ?_) (x := ?_) (f := ?_) (svs := ?_) (cs := ?_) (Qr := ?_) true ?_ ?_ ?_ ?_ ?_ ?_ ?_ ?_ ?_); rotate_left 6; (· (simp [argSlots, *]; done)); (· rfl); (· rfl); (· (simp; with_reducible rfl)); (· (simp; with_reducible rfl)); (· first | (simp [bors, bor]; with_reducible rfl) | (simp [bors, bor, *]; with_reducible rfl)); (· rfl); (· ((with_reducible refine head_ok))); (rintro sv hsv hsc; clear hsc; obtain rfl := hsv; refine ⟨(by first | (intro _; rfl) | (intro h; cases h)), ?_⟩; refine pwl_runk fun K' S hK' hS => ?_; simp [argSlots, *])) | ((with_reducible refine pwl_callk (c := ?_) (x := ?_) (f := ?_) (svs := ?_) (cs := ?_) (Qr := ?_) true ?_ ?_ ?_ ?_ ?_ ?_ ?_ ?_ ?_); rotate_left 6; (· (simp [argSlots, *]; done)); (· rfl); (· rfl); (· (simp; with_reducible rfl)); (· (simp; with_reducible rfl)); (· first | (simp [bors, bor]; with_reducible rfl) | (simp [bors, bor, *]; with_reducible rfl)); (· rfl); (· ((with_reducible refine hf))); (rintro sv hsv hsc; clear hsc; obtain rfl := hsv; refine ⟨(by first | (intro _; rfl) | (intro h; cases h)), ?_⟩; refine pwl_runk fun K' S hK' hS => ?_; simp [argSlots, *])) | fail)
    all_goals (refine finC_ret (vs := ?_) [] (by first | exact .inr rfl | exact .inl rfl) rfl ?_ ?_ ?_; rotate_left; (· simp [Tryz.results6, resL, resOf]; rfl); (· first | rfl | (simp [wrapRes, cv, SV.const, constL]; done)); (· first | (simp [wrapRes, cv, *]; done) | (simp [wrapRes, cv, *]; grind) | (simp [wrapRes, cv, *]; omega)))
  | true =>
    rw [hq] at hf
    obtain ⟨hR, hF, hl⟩ := fewQ_ok hq
    clear hq
    have hsm := some_ok F.length which (by omega)
    have hs := setP_some (n := F.length) (which := which)
    generalize someI F.length which = s at *
    have hsl := hs.len
    have hsr := (setP_iff.1 hs).2
    have hcc := consistent_ok R F s hR (by omega) (by omega)
    have hRo : OkR R.reverse := fun r h => hR r (List.mem_reverse.1 h)
    have hts := turned_ok F.length s (fun x hx => hsr x hx) (by omega) (by omega)
    have hcr := consistent_ok R.reverse F.reverse (turn F.length s) hRo (by simp; omega) (by simp; omega)
    rw [cons_rev hs] at hcr
    have hvi := dViolations_ok R F hR (by omega) (by omega)
    have hvr := dViolations_ok R.reverse F.reverse hRo (by simp; omega) (by simp; omega)
    have hvm : ∀ x ∈ violL R.reverse F.reverse, CC Tryz.prog 43 [sint F.length, .pv (.sl 1 (ints x))] (fun sv => sv = .pv (.sl 1 (ints (turn F.length x)))) := fun x hx => by
      have h1 := min_len hx
      have h2 := (setP_iff.1 (mem_violL.1 hx).1).2
      refine turned_ok F.length x (fun y hy => ?_) (by omega) (by omega)
      have := h2 y hy
      simp at this
      exact this
    have hdd := dDangling_ok R F (by omega)
    have hdr := dDangling_ok R.reverse F.reverse (by simp; omega)
    have htd := turned_ok F.length (dangL R.reverse F.reverse) (fun x hx => by
      have := mem_dangL.1 hx
      have h1 := this.1
      have h2 := this.2.1
      simp at h2
      exact ⟨h1, h2⟩) (by omega) (by have := dangL_len R.reverse F.reverse; simp at this; omega)
    rw [dang_rev] at htd
    have hio := ints_ok (dangL R F) (dangL R F)
    rw [lexLt_irrefl] at hio
    have hse := sets_ok (violL R F) (violL R F)
    rw [setsEq_self] at hse
    have hso := fun h => sorted_ok ((violL R.reverse F.reverse).map (turn F.length)) h
    rw [viol_rev] at hso
    obtain ⟨m, hm, hml⟩ : ∃ m : Nat, n.tmod ((R.length : Int) + 1) = (m : Int) ∧ m ≤ R.length := by
      refine ⟨(n.tmod ((R.length : Int) + 1)).toNat, ?_, ?_⟩
      · have := Int.tmod_nonneg (b := (R.length : Int) + 1) hn.1
        omega
      · have := Int.tmod_lt_of_pos n (b := (R.length : Int) + 1) (by omega)
        omega
    have hct := consistent_ok (R.take m) F s (fun r h => hR r (List.mem_of_mem_take h)) (by simp; omega) (by omega)
    have hctt : consL R F s = true → consL (R.take m) F s = true := fun h => cons_take h
    have hwn : IntKind.i64.wrap n = n := wrap64_id (by omega)
    have hwr : IntKind.i64.wrap ((R.length : Int) - 1) = (R.length : Int) - 1 := wrap64_id (by omega)
    have hwf : IntKind.i64.wrap ((F.length : Int) - 1) = (F.length : Int) - 1 := wrap64_id (by omega)
    have hr0 : ((R.length : Int) + 1 = 0) = False := eq_false (by omega)
    have hwl : IntKind.i64.wrap ((R.length : Int) + 1) = (R.length : Int) + 1 := wrap64_id (by omega)
    have hvl : (violL R.reverse F.reverse).length ≤ 100000 := by have := viol_len (R := R.reverse) (F := F.reverse) (by simp; omega); omega
    generalize violL R F = v at *
    generalize violL R.reverse F.reverse = vr at *
    generalize dangL R F = D at *
    generalize dangL R.reverse F.reverse = Dr at *
    generalize consL R F s = c at *
    generalize consL (R.take m) F s = c' at *
    generalize turn F.length s = st at *
    clear hs hsr hR hRo
    repeat' (first | with_reducible refine pws_seq ?_ | with_reducible refine pws_skip ?_ | with_reducible refine pws_block ?_ | ((with_reducible refine pws_regk fun K' S hK' hS => ?_); simp [argSlots, *]) | ((with_reducible refine Goes.go hK' ?_); clear hK' hS; clear K' S) | ((with_reducible refine GoesS.go hS ?_); clear hK' hS; clear K' S) | ((with_reducible refine pws_false ?_ ?_); (· simp; done)) | ((with_reducible refine pwl_callk (c := ?_) (x := ?_) (f := ?_) (svs := ?_) (cs := ?_) (Qr := ?_) true ?_ ?_ ?_ ?_ ?_ ?_ ?_ ?_ ?_); rotate_left 6; (· (simp [argSlots, *]; done)); (· rfl); (· rfl); (· (simp; with_reducible rfl)); (· (simp; with_reducible rfl)); (· first | (simp [bors, bor]; with_reducible rfl) | (simp [bors, bor, *]; with_reducible rfl)); (· rfl); (· ((with_reducible refine head_ok))); (rintro sv hsv hsc; clear hsc; obtain rfl := hsv; refine ⟨(by first | (intro _; rfl) | (intro h; cases h)), ?_⟩; refine pwl_runk fun K' S hK' hS => ?_; simp [argSlots, *])) | ((with_reducible refine pwl_callk (c := ?_) (x := ?_) (f := ?_) (svs := ?_) (cs := ?_) (Qr := ?_) true ?_ ?_ ?_ ?_ ?_ ?_ ?_ ?_ ?_); rotate_left 6; (· (simp [argSlots, *]; done)); (· rfl); (· rfl); (· (simp; with_reducible rfl)); (· (simp; with_reducible rfl)); (· first | (simp [bors, bor]; with_reducible rfl) | (simp [bors, bor, *]; with_reducible rfl)); (· rfl); (· ((with_reducible refine hf))); (rintro sv hsv hsc; clear hsc; obtain rfl := hsv; refine ⟨(by first | (intro _; rfl) | (intro h; cases h)), ?_⟩; refine pwl_runk fun K' S hK' hS => ?_; simp [argSlots, *])) | fail)
    refine pws_ent (ent_adopts (v := 11) (t := 32) (es := 10) rfl (by decide)) ?_
    refine pws_loop (α := { v : Nat × Nat // v.1 ≤ R.length }) (fun v => { n := 140, nx := 1, s := [(12, sint ((R.length : Int) - 1 - v.1.1)), (11, .loc 10 0 v.1.2 0 (revAt R v.1.1).length), (10, sint F.length), (9, sbool true), (0, .pv (.sl 10 (prules R))), (1, .pv (.sl 6 (pfacts F))), (2, .pv (.sl 1 (pbools which))), (3, .pv (.lit (.int .u8 n)))], h := [(0, .arr 32 10 v.1.2 false (prules (revAt R v.1.1)))], d := [] }) (fun v => R.length - v.1.1) (fun _ => True) ⟨(0, 0), by simp⟩ trivial (ent_sub rfl rfl rfl (by simp [SubL, revAt, *]) (by simp [SubL, revAt, *]) (by simp) (by simp) (by simp [slotsBelow, SV.lo, belowL]) (by simp [heapBelow, ABlk.lo, SV.lo, belowL, slotsBelow])) ?_
    rintro ⟨⟨j, g⟩, hj⟩ _ K hK
    simp only at hj
    have hrl := revAt_len hj
    by_cases h1 : j < R.length
    · obtain ⟨p, hp⟩ : ∃ p, p + j + 1 = R.length := ⟨R.length - 1 - j, by omega⟩
      have hpi : (R.length : Int) - 1 - j = p := by omega
      have hpl : p < R.length := by omega
      have hwm : IntKind.i64.wrap ((p : Int) - 1) = (R.length : Int) - 1 - ((j + 1 : Nat) : Int) := by rw [wrap64_id (by omega)]; omega
      have hsc := revAt_succ hp
      have hb1 : ((revAt R j).length + 1) * 152 ≤ 140737488355328 := by omega
      have hm0 : (0 : Int) ≤ p := by omega
      rw [hpi]
      clear hwr hrl hpi hm hml hct hctt hso hio hse hdd hdr htd hvm hvi hvr hcr hts hcc hsm
      generalize revAt R j = G at *
      repeat' (first | with_reducible refine pws_seq ?_ | with_reducible refine pws_skip ?_ | with_reducible refine pws_block ?_ | ((with_reducible refine pws_regk fun K' S hK' hS => ?_); simp [argSlots, *]) | ((with_reducible refine Goes.go hK' ?_); clear hK' hS; clear K' S) | ((with_reducible refine pws_true ?_ ?_); (· simp; done)) | with_reducible refine blk_normal ?_ | with_reducible refine thenQ_normal ?_ | with_reducible refine pws_nil ?_)
      refine hK _ ⟨(j + 1, g + 1), by simp; omega⟩ (ent_sub rfl rfl rfl (by simp [SubL, hsc, hwm, *]) (by simp [SubL, hsc, *]) (by simp) (by simp) (by simp [slotsBelow, SV.lo, belowL]) (by simp [heapBelow, ABlk.lo, SV.lo, belowL, slotsBelow])) trivial (by simp; omega)
    · obtain rfl : j = R.length := by omega
      clear hK
      have hm0 : ¬ (0 : Int) ≤ (R.length : Int) - 1 - R.length := by omega
      rw [revAt_all] at hrl ⊢
      generalize hz : (R.length : Int) - 1 - R.length = z at *
      clear hz h1
      generalize hRr : R.reverse = Rr at *
      repeat' (first | with_reducible refine pws_seq ?_ | with_reducible refine pws_block ?_ | ((with_reducible refine pws_regk fun K' S hK' hS => ?_); simp [argSlots, *]) | ((with_reducible refine Goes.go hK' ?_); clear hK' hS; clear K' S) | ((with_reducible refine pws_false ?_ ?_); (· simp; done)) | with_reducible refine blk_same ?_ | with_reducible refine thenQ_exit ?_ | with_reducible refine pws_exit ?_)
      refine pws_ent (ent_adopts (v := 13) (t := 54) (es := 6) rfl (by decide)) ?_
      refine pws_loop (α := { v : Nat × Nat // v.1 ≤ F.length }) (fun v => { n := 140, nx := 2, s := [(14, sint ((F.length : Int) - 1 - v.1.1)), (13, .loc 6 1 v.1.2 0 (revAt F v.1.1).length), (11, .loc 10 0 g 0 R.length), (10, sint F.length), (9, sbool true), (0, .pv (.sl 10 (prules R))), (1, .pv (.sl 6 (pfacts F))), (2, .pv (.sl 1 (pbools which))), (3, .pv (.lit (.int .u8 n)))], h := [(1, .arr 54 6 v.1.2 false (pfacts (revAt F v.1.1))), (0, .arr 32 10 g false (prules Rr))], d := [] }) (fun v => F.length - v.1.1) (fun _ => True) ⟨(0, 0), by simp⟩ trivial (ent_sub rfl rfl rfl (by simp [SubL, revAt, *]) (by simp [SubL, revAt, *]) (by simp) (by simp) (by simp [slotsBelow, SV.lo, belowL]) (by simp [heapBelow, ABlk.lo, SV.lo, belowL, slotsBelow])) ?_
      rintro ⟨⟨j, g2⟩, hj⟩ _ K hK
      simp only at hj
      have hfl := revAt_len hj
      by_cases h1 : j < F.length
      · obtain ⟨p, hp⟩ : ∃ p, p + j + 1 = F.length := ⟨F.length - 1 - j, by omega⟩
        have hpi : (F.length : Int) - 1 - j = p := by omega
        have hpl : p < F.length := by omega
        have hwm : IntKind.i64.wrap ((p : Int) - 1) = (F.length : Int) - 1 - ((j + 1 : Nat) : Int) := by rw [wrap64_id (by omega)]; omega
        have hsc := revAt_succ hp
        have hb1 : ((revAt F j).length + 1) * 80 ≤ 140737488355328 := by omega
        have hmp : (0 : Int) ≤ p := by omega
        rw [hpi]
        clear hwf hfl hpi hm hml hct hctt hso hio hse hdd hdr htd hvm hvi hvr hcr hts hcc hsm hrl hwr hm0
        generalize revAt F j = G at *
        repeat' (first | with_reducible refine pws_seq ?_ | with_reducible refine pws_skip ?_ | with_reducible refine pws_block ?_ | ((with_reducible refine pws_regk fun K' S hK' hS => ?_); simp [argSlots, *]) | ((with_reducible refine Goes.go hK' ?_); clear hK' hS; clear K' S) | ((with_reducible refine pws_true ?_ ?_); (· simp; done)) | with_reducible refine blk_normal ?_ | with_reducible refine thenQ_normal ?_ | with_reducible refine pws_nil ?_)
        refine hK _ ⟨(j + 1, g2 + 1), by simp; omega⟩ (ent_sub rfl rfl rfl (by simp [SubL, hsc, hwm, *]) (by simp [SubL, hsc, *]) (by simp) (by simp) (by simp [slotsBelow, SV.lo, belowL]) (by simp [heapBelow, ABlk.lo, SV.lo, belowL, slotsBelow])) trivial (by simp; omega)
      · obtain rfl : j = F.length := by omega
        clear hK
        have hmz : ¬ (0 : Int) ≤ (F.length : Int) - 1 - F.length := by omega
        rw [revAt_all] at hfl ⊢
        generalize hz : (F.length : Int) - 1 - F.length = z2 at *
        clear hz h1
        generalize hFr : F.reverse = Fr at *
        have hso := hso (by simp; exact hvl)
        have htR : List.take R.length (prules Rr) = prules Rr := List.take_of_length_le (by simp [hrl])
        have htF : List.take F.length (pfacts Fr) = pfacts Fr := List.take_of_length_le (by simp [hfl])
        cases c with
        | false =>
          clear hct hctt
          repeat' (first | with_reducible refine pws_seq ?_ | ((with_reducible refine pws_regk fun K' S hK' hS => ?_); simp [argSlots, *]) | ((with_reducible refine Goes.go hK' ?_); clear hK' hS; clear K' S) | ((with_reducible refine GoesS.go hS ?_); clear hK' hS; clear K' S) | ((with_reducible refine pws_false ?_ ?_); (· simp; done)) | with_reducible refine blk_same ?_ | with_reducible refine thenQ_exit ?_ | with_reducible refine pws_exit ?_ | ((with_reducible refine pwl_callk (c := ?_) (x := ?_) (f := ?_) (svs := ?_) (cs := ?_) (Qr := ?_) false ?_ ?_ ?_ ?_ ?_ ?_ ?_ ?_ ?_); rotate_left 6; (· (simp [argSlots, *]; done)); (· rfl); (· rfl); (· (simp; with_reducible rfl)); (· (simp; with_reducible rfl)); (· first | (simp [bors, bor]; with_reducible rfl) | (simp [bors, bor, *]; with_reducible rfl)); (· rfl); (· ((with_reducible refine hsm))); (rintro sv hsv hsc; clear hsc; obtain rfl := hsv; refine ⟨(by first | (intro _; rfl) | (intro h; cases h)), ?_⟩; refine pwl_runk fun K' S hK' hS => ?_; simp [argSlots, *])) | ((with_reducible refine pwl_callk (c := ?_) (x := ?_) (f := ?_) (svs := ?_) (cs := ?_) (Qr := ?_) false ?_ ?_ ?_ ?_ ?_ ?_ ?_ ?_ ?_); rotate_left 6; (· (simp [argSlots, *]; done)); (· rfl); (· rfl); (· (simp; with_reducible rfl)); (· (simp; with_reducible rfl)); (· first | (simp [bors, bor]; with_reducible rfl) | (simp [bors, bor, *]; with_reducible rfl)); (· rfl); (· ((with_reducible refine hcc))); (rintro sv hsv hsc; clear hsc; obtain rfl := hsv; refine ⟨(by first | (intro _; rfl) | (intro h; cases h)), ?_⟩; refine pwl_runk fun K' S hK' hS => ?_; simp [argSlots, *])) | ((with_reducible refine pwl_callk (c := ?_) (x := ?_) (f := ?_) (svs := ?_) (cs := ?_) (Qr := ?_) false ?_ ?_ ?_ ?_ ?_ ?_ ?_ ?_ ?_); rotate_left 6; (· (simp [argSlots, *]; done)); (· rfl); (· rfl); (· (simp; with_reducible rfl)); (· (simp; with_reducible rfl)); (· first | (simp [bors, bor]; with_reducible rfl) | (simp [bors, bor, *]; with_reducible rfl)); (· rfl); (· ((with_reducible refine hts))); (rintro sv hsv hsc; clear hsc; obtain rfl := hsv; refine ⟨(by first | (intro _; rfl) | (intro h; cases h)), ?_⟩; refine pwl_runk fun K' S hK' hS => ?_; simp [argSlots, *])) | fail)
          refine ent_frzs' [.loc 10 0 g 0 R.length, .loc 6 1 g2 0 F.length] ?_
          refine pwl_runk fun K' S hK' hS => ?_
          simp [*]
          repeat' (first | with_reducible refine pws_seq ?_ | with_reducible refine pws_skip ?_ | with_reducible refine pws_block ?_ | ((with_reducible refine pws_regk fun K' S hK' hS => ?_); simp [argSlots, *]) | ((with_reducible refine Goes.go hK' ?_); clear hK' hS; clear K' S) | ((with_reducible refine GoesS.go hS ?_); clear hK' hS; clear K' S) | ((with_reducible refine pws_false ?_ ?_); (· simp; done)) | ((with_reducible refine pwl_callk (c := ?_) (x := ?_) (f := ?_) (svs := ?_) (cs := ?_) (Qr := ?_) false ?_ ?_ ?_ ?_ ?_ ?_ ?_ ?_ ?_); rotate_left 6; (· (simp [argSlots, *]; done)); (· rfl); (· rfl); (· (simp; with_reducible rfl)); (· (simp; with_reducible rfl)); (· first | (simp [bors, bor]; with_reducible rfl) | (simp [bors, bor, *]; with_reducible rfl)); (· rfl); (· ((with_reducible refine hcr))); (rintro sv hsv hsc; clear hsc; obtain rfl := hsv; refine ⟨(by first | (intro _; rfl) | (intro h; cases h)), ?_⟩; refine pwl_runk fun K' S hK' hS => ?_; simp [argSlots, *])) | ((with_reducible refine pwl_callk (c := ?_) (x := ?_) (f := ?_) (svs := ?_) (cs := ?_) (Qr := ?_) false ?_ ?_ ?_ ?_ ?_ ?_ ?_ ?_ ?_); rotate_left 6; (· (simp [argSlots, *]; done)); (· rfl); (· rfl); (· (simp; with_reducible rfl)); (· (simp; with_reducible rfl)); (· first | (simp [bors, bor]; with_reducible rfl) | (simp [bors, bor, *]; with_reducible rfl)); (· rfl); (· ((with_reducible refine hvi))); (rintro sv hsv hsc; clear hsc; obtain rfl := hsv; refine ⟨(by first | (intro _; rfl) | (intro h; cases h)), ?_⟩; refine pwl_runk fun K' S hK' hS => ?_; simp [argSlots, *])) | ((with_reducible refine pwl_callk (c := ?_) (x := ?_) (f := ?_) (svs := ?_) (cs := ?_) (Qr := ?_) false ?_ ?_ ?_ ?_ ?_ ?_ ?_ ?_ ?_); rotate_left 6; (· (simp [argSlots, *]; done)); (· rfl); (· rfl); (· (simp; with_reducible rfl)); (· (simp; with_reducible rfl)); (· first | (simp [bors, bor]; with_reducible rfl) | (simp [bors, bor, *]; with_reducible rfl)); (· rfl); (· ((with_reducible refine hvr))); (rintro sv hsv hsc; clear hsc; obtain rfl := hsv; refine ⟨(by first | (intro _; rfl) | (intro h; cases h)), ?_⟩; refine pwl_runk fun K' S hK' hS => ?_; simp [argSlots, *])) | fail)
          refine pws_ent (ent_adopts (v := 21) (t := 24) (es := 1) rfl (by decide)) ?_
          refine pws_loop (α := { v : Nat × Nat // v.1 ≤ vr.length }) (fun v' => { n := 140, nx := 3, s := [(22, sint v'.1.1), (21, .loc 1 2 v'.1.2 0 v'.1.1), (19, .pv (.sl 1 (psets vr))), (20, sint 0), (17, .pv (.sl 1 (psets v))), (18, sint 0), (13, .loc 6 1 g2 0 F.length), (11, .loc 10 0 g 0 R.length), (10, sint F.length), (9, sbool true), (0, .pv (.sl 10 (prules R))), (1, .pv (.sl 6 (pfacts F)))], h := [(2, .arr 24 1 v'.1.2 false (psets (turnsTo F.length vr v'.1.1))), (1, .arr 54 6 g2 true (pfacts Fr)), (0, .arr 32 10 g true (prules Rr))], d := [] }) (fun v => vr.length - v.1.1) (fun _ => True) ⟨(0, 0), by simp⟩ trivial (ent_sub rfl rfl rfl (by simp [SubL, turnsTo, *]) (by simp [SubL, turnsTo, *]) (by simp) (by simp) (by simp [slotsBelow, SV.lo, belowL]) (by simp [heapBelow, ABlk.lo, SV.lo, belowL, slotsBelow])) ?_
          rintro ⟨⟨k, g3⟩, hk⟩ _ K hK
          simp only at hk
          by_cases h3 : k < vr.length
          · have hw := wrap64_id (n := (k : Int) + 1) (by omega)
            have hvk := hvm _ (List.getElem_mem h3)
            have hts := turnsTo_succ (n := F.length) h3
            have htl := turnsTo_len (n := F.length) hk
            have hb1 : (k + 1) * 24 ≤ 140737488355328 := by omega
            clear hso hvm
            generalize turnsTo F.length vr k = T at *
            have hTk : List.take k (psets T) = psets T := List.take_of_length_le (by simp [htl])
            repeat' (first | with_reducible refine pws_seq ?_ | with_reducible refine pws_skip ?_ | with_reducible refine pws_block ?_ | ((with_reducible refine pws_regk fun K' S hK' hS => ?_); simp [argSlots, *]) | ((with_reducible refine Goes.go hK' ?_); clear hK' hS; clear K' S) | ((with_reducible refine GoesS.go hS ?_); clear hK' hS; clear K' S) | ((with_reducible refine pws_true ?_ ?_); (· simp; done)) | with_reducible refine blk_normal ?_ | with_reducible refine thenQ_normal ?_ | with_reducible refine pws_nil ?_ | ((with_reducible refine pwl_callk (c := ?_) (x := ?_) (f := ?_) (svs := ?_) (cs := ?_) (Qr := ?_) false ?_ ?_ ?_ ?_ ?_ ?_ ?_ ?_ ?_); rotate_left 6; (· (simp [argSlots, *]; done)); (· rfl); (· rfl); (· (simp; with_reducible rfl)); (· (simp; with_reducible rfl)); (· first | (simp [bors, bor]; with_reducible rfl) | (simp [bors, bor, *]; with_reducible rfl)); (· rfl); (· ((with_reducible refine hvk))); (rintro sv hsv hsc; clear hsc; obtain rfl := hsv; refine ⟨(by first | (intro _; rfl) | (intro h; cases h)), ?_⟩; refine pwl_runk fun K' S hK' hS => ?_; simp [argSlots, *])) | fail)
            refine hK _ ⟨(k + 1, g3 + 1), by simp; omega⟩ (ent_sub rfl rfl rfl (by simp [SubL, hts, *]) (by simp [SubL, hts, *]) (by simp) (by simp) (by simp [slotsBelow, SV.lo, belowL]) (by simp [heapBelow, ABlk.lo, SV.lo, belowL, slotsBelow])) trivial (by simp; omega)
          · obtain rfl : k = vr.length := by omega
            clear hK hvm
            rw [turnsTo_all]
            generalize hT : vr.map (turn F.length) = T at *
            have hTl : T.length = vr.length := by rw [← hT]; simp
            have htT : List.take vr.length (psets T) = psets T := List.take_of_length_le (by simp [hTl])
            clear hT
            repeat' (first | with_reducible refine pws_seq ?_ | ((with_reducible refine pws_regk fun K' S hK' hS => ?_); simp [argSlots, *]) | ((with_reducible refine Goes.go hK' ?_); clear hK' hS; clear K' S) | ((with_reducible refine GoesS.go hS ?_); clear hK' hS; clear K' S) | ((with_reducible refine pws_false ?_ ?_); (· simp; done)) | with_reducible refine blk_same ?_ | with_reducible refine thenQ_exit ?_ | with_reducible refine pws_exit ?_)
            refine ent_frzs' [.loc 1 2 g3 0 vr.length] ?_
            refine pwl_runk fun K' S hK' hS => ?_
            simp [*]
            repeat' (first | ((with_reducible refine Goes.go hK' ?_); clear hK' hS; clear K' S) | ((with_reducible refine GoesS.go hS ?_); clear hK' hS; clear K' S) | with_reducible refine pws_ret ?_ | ((with_reducible refine pwl_callk (c := ?_) (x := ?_) (f := ?_) (svs := ?_) (cs := ?_) (Qr := ?_) false ?_ ?_ ?_ ?_ ?_ ?_ ?_ ?_ ?_); rotate_left 6; (· (simp [argSlots, *]; done)); (· rfl); (· rfl); (· (simp; with_reducible rfl)); (· (simp; with_reducible rfl)); (· first | (simp [bors, bor]; with_reducible rfl) | (simp [bors, bor, *]; with_reducible rfl)); (· rfl); (· ((with_reducible refine hso))); (rintro sv hsv hsc; clear hsc; obtain rfl := hsv; refine ⟨(by first | (intro _; rfl) | (intro h; cases h)), ?_⟩; refine pwl_runk fun K' S hK' hS => ?_; simp [argSlots, *])) | ((with_reducible refine pwl_callk (c := ?_) (x := ?_) (f := ?_) (svs := ?_) (cs := ?_) (Qr := ?_) false ?_ ?_ ?_ ?_ ?_ ?_ ?_ ?_ ?_); rotate_left 6; (· (simp [argSlots, *]; done)); (· rfl); (· rfl); (· (simp; with_reducible rfl)); (· (simp; with_reducible rfl)); (· first | (simp [bors, bor]; with_reducible rfl) | (simp [bors, bor, *]; with_reducible rfl)); (· rfl); (· ((with_reducible refine hse))); (rintro sv hsv hsc; clear hsc; obtain rfl := hsv; refine ⟨(by first | (intro _; rfl) | (intro h; cases h)), ?_⟩; refine pwl_runk fun K' S hK' hS => ?_; simp [argSlots, *])) | ((with_reducible refine pwl_callk (c := ?_) (x := ?_) (f := ?_) (svs := ?_) (cs := ?_) (Qr := ?_) false ?_ ?_ ?_ ?_ ?_ ?_ ?_ ?_ ?_); rotate_left 6; (· (simp [argSlots, *]; done)); (· rfl); (· rfl); (· (simp; with_reducible rfl)); (· (simp; with_reducible rfl)); (· first | (simp [bors, bor]; with_reducible rfl) | (simp [bors, bor, *]; with_reducible rfl)); (· rfl); (· ((with_reducible refine hdd))); (rintro sv hsv hsc; clear hsc; obtain rfl := hsv; refine ⟨(by first | (intro _; rfl) | (intro h; cases h)), ?_⟩; refine pwl_runk fun K' S hK' hS => ?_; simp [argSlots, *])) | ((with_reducible refine pwl_callk (c := ?_) (x := ?_) (f := ?_) (svs := ?_) (cs := ?_) (Qr := ?_) false ?_ ?_ ?_ ?_ ?_ ?_ ?_ ?_ ?_); rotate_left 6; (· (simp [argSlots, *]; done)); (· rfl); (· rfl); (· (simp; with_reducible rfl)); (· (simp; with_reducible rfl)); (· first | (simp [bors, bor]; with_reducible rfl) | (simp [bors, bor, *]; with_reducible rfl)); (· rfl); (· ((with_reducible refine hdr))); (rintro sv hsv hsc; clear hsc; obtain rfl := hsv; refine ⟨(by first | (intro _; rfl) | (intro h; cases h)), ?_⟩; refine pwl_runk fun K' S hK' hS => ?_; simp [argSlots, *])) | ((with_reducible refine pwl_callk (c := ?_) (x := ?_) (f := ?_) (svs := ?_) (cs := ?_) (Qr := ?_) false ?_ ?_ ?_ ?_ ?_ ?_ ?_ ?_ ?_); rotate_left 6; (· (simp [argSlots, *]; done)); (· rfl); (· rfl); (· (simp; with_reducible rfl)); (· (simp; with_reducible rfl)); (· first | (simp [bors, bor]; with_reducible rfl) | (simp [bors, bor, *]; with_reducible rfl)); (· rfl); (· ((with_reducible refine htd))); (rintro sv hsv hsc; clear hsc; obtain rfl := hsv; refine ⟨(by first | (intro _; rfl) | (intro h; cases h)), ?_⟩; refine pwl_runk fun K' S hK' hS => ?_; simp [argSlots, *])) | ((with_reducible refine pwl_callk (c := ?_) (x := ?_) (f := ?_) (svs := ?_) (cs := ?_) (Qr := ?_) false ?_ ?_ ?_ ?_ ?_ ?_ ?_ ?_ ?_); rotate_left 6; (· (simp [argSlots, *]; done)); (· rfl); (· rfl); (· (simp; with_reducible rfl)); (· (simp; with_reducible rfl)); (· first | (simp [bors, bor]; with_reducible rfl) | (simp [bors, bor, *]; with_reducible rfl)); (· rfl); (· ((with_reducible refine hio))); (rintro sv hsv hsc; clear hsc; obtain rfl := hsv; refine ⟨(by first | (intro _; rfl) | (intro h; cases h)), ?_⟩; refine pwl_runk fun K' S hK' hS => ?_; simp [argSlots, *])) | fail)
            all_goals (refine finC_ret (vs := ?_) [] (by first | exact .inr rfl | exact .inl rfl) rfl ?_ ?_ ?_; rotate_left; (· simp [Tryz.results6, resL, resOf]; rfl); (· first | rfl | (simp [wrapRes, cv, SV.const, constL]; done)); (· first | (simp [wrapRes, cv, *]; done) | (simp [wrapRes, cv, *]; grind) | (simp [wrapRes, cv, *]; omega)))
        | true =>
          rw [hctt rfl] at hct
          have hmt : prules (R.take m) = List.take m (prules R) := List.map_take
          rw [hmt] at hct
          clear hctt
          repeat' (first | with_reducible refine pws_seq ?_ | ((with_reducible refine pws_regk fun K' S hK' hS => ?_); simp [argSlots, *]) | ((with_reducible refine Goes.go hK' ?_); clear hK' hS; clear K' S) | ((with_reducible refine GoesS.go hS ?_); clear hK' hS; clear K' S) | ((with_reducible refine pws_false ?_ ?_); (· simp; done)) | with_reducible refine blk_same ?_ | with_reducible refine thenQ_exit ?_ | with_reducible refine pws_exit ?_ | ((with_reducible refine pwl_callk (c := ?_) (x := ?_) (f := ?_) (svs := ?_) (cs := ?_) (Qr := ?_) false ?_ ?_ ?_ ?_ ?_ ?_ ?_ ?_ ?_); rotate_left 6; (· (simp [argSlots, *]; done)); (· rfl); (· rfl); (· (simp; with_reducible rfl)); (· (simp; with_reducible rfl)); (· first | (simp [bors, bor]; with_reducible rfl) | (simp [bors, bor, *]; with_reducible rfl)); (· rfl); (· ((with_reducible refine hsm))); (rintro sv hsv hsc; clear hsc; obtain rfl := hsv; refine ⟨(by first | (intro _; rfl) | (intro h; cases h)), ?_⟩; refine pwl_runk fun K' S hK' hS => ?_; simp [argSlots, *])) | ((with_reducible refine pwl_callk (c := ?_) (x := ?_) (f := ?_) (svs := ?_) (cs := ?_) (Qr := ?_) false ?_ ?_ ?_ ?_ ?_ ?_ ?_ ?_ ?_); rotate_left 6; (· (simp [argSlots, *]; done)); (· rfl); (· rfl); (· (simp; with_reducible rfl)); (· (simp; with_reducible rfl)); (· first | (simp [bors, bor]; with_reducible rfl) | (simp [bors, bor, *]; with_reducible rfl)); (· rfl); (· ((with_reducible refine hcc))); (rintro sv hsv hsc; clear hsc; obtain rfl := hsv; refine ⟨(by first | (intro _; rfl) | (intro h; cases h)), ?_⟩; refine pwl_runk fun K' S hK' hS => ?_; simp [argSlots, *])) | ((with_reducible refine pwl_callk (c := ?_) (x := ?_) (f := ?_) (svs := ?_) (cs := ?_) (Qr := ?_) false ?_ ?_ ?_ ?_ ?_ ?_ ?_ ?_ ?_); rotate_left 6; (· (simp [argSlots, *]; done)); (· rfl); (· rfl); (· (simp; with_reducible rfl)); (· (simp; with_reducible rfl)); (· first | (simp [bors, bor]; with_reducible rfl) | (simp [bors, bor, *]; with_reducible rfl)); (· rfl); (· ((with_reducible refine hts))); (rintro sv hsv hsc; clear hsc; obtain rfl := hsv; refine ⟨(by first | (intro _; rfl) | (intro h; cases h)), ?_⟩; refine pwl_runk fun K' S hK' hS => ?_; simp [argSlots, *])) | fail)
          refine ent_frzs' [.loc 10 0 g 0 R.length, .loc 6 1 g2 0 F.length] ?_
          refine pwl_runk fun K' S hK' hS => ?_
          simp [*]
          repeat' (first | with_reducible refine pws_seq ?_ | with_reducible refine pws_skip ?_ | with_reducible refine pws_block ?_ | ((with_reducible refine pws_regk fun K' S hK' hS => ?_); simp [argSlots, *]) | ((with_reducible refine Goes.go hK' ?_); clear hK' hS; clear K' S) | ((with_reducible refine GoesS.go hS ?_); clear hK' hS; clear K' S) | ((with_reducible refine pws_false ?_ ?_); (· simp; done)) | ((with_reducible refine pwl_callk (c := ?_) (x := ?_) (f := ?_) (svs := ?_) (cs := ?_) (Qr := ?_) false ?_ ?_ ?_ ?_ ?_ ?_ ?_ ?_ ?_); rotate_left 6; (· (simp [argSlots, *]; done)); (· rfl); (· rfl); (· (simp; with_reducible rfl)); (· (simp; with_reducible rfl)); (· first | (simp [bors, bor]; with_reducible rfl) | (simp [bors, bor, *]; with_reducible rfl)); (· rfl); (· ((with_reducible refine hcr))); (rintro sv hsv hsc; clear hsc; obtain rfl := hsv; refine ⟨(by first | (intro _; rfl) | (intro h; cases h)), ?_⟩; refine pwl_runk fun K' S hK' hS => ?_; simp [argSlots, *])) | ((with_reducible refine pwl_callk (c := ?_) (x := ?_) (f := ?_) (svs := ?_) (cs := ?_) (Qr := ?_) false ?_ ?_ ?_ ?_ ?_ ?_ ?_ ?_ ?_); rotate_left 6; (· (simp [argSlots, *]; done)); (· rfl); (· rfl); (· (simp; with_reducible rfl)); (· (simp; with_reducible rfl)); (· first | (simp [bors, bor]; with_reducible rfl) | (simp [bors, bor, *]; with_reducible rfl)); (· rfl); (· ((with_reducible refine hct))); (rintro sv hsv hsc; clear hsc; obtain rfl := hsv; refine ⟨(by first | (intro _; rfl) | (intro h; cases h)), ?_⟩; refine pwl_runk fun K' S hK' hS => ?_; simp [argSlots, *])) | ((with_reducible refine pwl_callk (c := ?_) (x := ?_) (f := ?_) (svs := ?_) (cs := ?_) (Qr := ?_) false ?_ ?_ ?_ ?_ ?_ ?_ ?_ ?_ ?_); rotate_left 6; (· (simp [argSlots, *]; done)); (· rfl); (· rfl); (· (simp; with_reducible rfl)); (· (simp; with_reducible rfl)); (· first | (simp [bors, bor]; with_reducible rfl) | (simp [bors, bor, *]; with_reducible rfl)); (· rfl); (· ((with_reducible refine hvi))); (rintro sv hsv hsc; clear hsc; obtain rfl := hsv; refine ⟨(by first | (intro _; rfl) | (intro h; cases h)), ?_⟩; refine pwl_runk fun K' S hK' hS => ?_; simp [argSlots, *])) | ((with_reducible refine pwl_callk (c := ?_) (x := ?_) (f := ?_) (svs := ?_) (cs := ?_) (Qr := ?_) false ?_ ?_ ?_ ?_ ?_ ?_ ?_ ?_ ?_); rotate_left 6; (· (simp [argSlots, *]; done)); (· rfl); (· rfl); (· (simp; with_reducible rfl)); (· (simp; with_reducible rfl)); (· first | (simp [bors, bor]; with_reducible rfl) | (simp [bors, bor, *]; with_reducible rfl)); (· rfl); (· ((with_reducible refine hvr))); (rintro sv hsv hsc; clear hsc; obtain rfl := hsv; refine ⟨(by first | (intro _; rfl) | (intro h; cases h)), ?_⟩; refine pwl_runk fun K' S hK' hS => ?_; simp [argSlots, *])) | fail)
          refine pws_ent (ent_adopts (v := 21) (t := 24) (es := 1) rfl (by decide)) ?_
          refine pws_loop (α := { v : Nat × Nat // v.1 ≤ vr.length }) (fun v' => { n := 140, nx := 3, s := [(22, sint v'.1.1), (21, .loc 1 2 v'.1.2 0 v'.1.1), (19, .pv (.sl 1 (psets vr))), (20, sint 0), (17, .pv (.sl 1 (psets v))), (18, sint 0), (13, .loc 6 1 g2 0 F.length), (11, .loc 10 0 g 0 R.length), (10, sint F.length), (9, sbool true), (0, .pv (.sl 10 (prules R))), (1, .pv (.sl 6 (pfacts F)))], h := [(2, .arr 24 1 v'.1.2 false (psets (turnsTo F.length vr v'.1.1))), (1, .arr 54 6 g2 true (pfacts Fr)), (0, .arr 32 10 g true (prules Rr))], d := [] }) (fun v => vr.length - v.1.1) (fun _ => True) ⟨(0, 0), by simp⟩ trivial (ent_sub rfl rfl rfl (by simp [SubL, turnsTo, *]) (by simp [SubL, turnsTo, *]) (by simp) (by simp) (by simp [slotsBelow, SV.lo, belowL]) (by simp [heapBelow, ABlk.lo, SV.lo, belowL, slotsBelow])) ?_
          rintro ⟨⟨k, g3⟩, hk⟩ _ K hK
          simp only at hk
          by_cases h3 : k < vr.length
          · have hw := wrap64_id (n := (k : Int) + 1) (by omega)
            have hvk := hvm _ (List.getElem_mem h3)
            have hts := turnsTo_succ (n := F.length) h3
            have htl := turnsTo_len (n := F.length) hk
            have hb1 : (k + 1) * 24 ≤ 140737488355328 := by omega
            clear hso hvm
            generalize turnsTo F.length vr k = T at *
            have hTk : List.take k (psets T) = psets T := List.take_of_length_le (by simp [htl])
            repeat' (first | with_reducible refine pws_seq ?_ | with_reducible refine pws_skip ?_ | with_reducible refine pws_block ?_ | ((with_reducible refine pws_regk fun K' S hK' hS => ?_); simp [argSlots, *]) | ((with_reducible refine Goes.go hK' ?_); clear hK' hS; clear K' S) | ((with_reducible refine GoesS.go hS ?_); clear hK' hS; clear K' S) | ((with_reducible refine pws_true ?_ ?_); (· simp; done)) | with_reducible refine blk_normal ?_ | with_reducible refine thenQ_normal ?_ | with_reducible refine pws_nil ?_ | ((with_reducible refine pwl_callk (c := ?_) (x := ?_) (f := ?_) (svs := ?_) (cs := ?_) (Qr := ?_) false ?_ ?_ ?_ ?_ ?_ ?_ ?_ ?_ ?_); rotate_left 6; (· (simp [argSlots, *]; done)); (· rfl); (· rfl); (· (simp; with_reducible rfl)); (· (simp; with_reducible rfl)); (· first | (simp [bors, bor]; with_reducible rfl) | (simp [bors, bor, *]; with_reducible rfl)); (· rfl); (· ((with_reducible refine hvk))); (rintro sv hsv hsc; clear hsc; obtain rfl := hsv; refine ⟨(by first | (intro _; rfl) | (intro h; cases h)), ?_⟩; refine pwl_runk fun K' S hK' hS => ?_; simp [argSlots, *])) | fail)
            refine hK _ ⟨(k + 1, g3 + 1), by simp; omega⟩ (ent_sub rfl rfl rfl (by simp [SubL, hts, *]) (by simp [SubL, hts, *]) (by simp) (by simp) (by simp [slotsBelow, SV.lo, belowL]) (by simp [heapBelow, ABlk.lo, SV.lo, belowL, slotsBelow])) trivial (by simp; omega)
          · obtain rfl : k = vr.length := by omega
            clear hK hvm
            rw [turnsTo_all]
            generalize hT : vr.map (turn F.length) = T at *
            have hTl : T.length = vr.length := by rw [← hT]; simp
            have htT : List.take vr.length (psets T) = psets T := List.take_of_length_le (by simp [hTl])
            clear hT
            repeat' (first | with_reducible refine pws_seq ?_ | ((with_reducible refine pws_regk fun K' S hK' hS => ?_); simp [argSlots, *]) | ((with_reducible refine Goes.go hK' ?_); clear hK' hS; clear K' S) | ((with_reducible refine GoesS.go hS ?_); clear hK' hS; clear K' S) | ((with_reducible refine pws_false ?_ ?_); (· simp; done)) | with_reducible refine blk_same ?_ | with_reducible refine thenQ_exit ?_ | with_reducible refine pws_exit ?_)
            refine ent_frzs' [.loc 1 2 g3 0 vr.length] ?_
            refine pwl_runk fun K' S hK' hS => ?_
            simp [*]
            repeat' (first | ((with_reducible refine Goes.go hK' ?_); clear hK' hS; clear K' S) | ((with_reducible refine GoesS.go hS ?_); clear hK' hS; clear K' S) | with_reducible refine pws_ret ?_ | ((with_reducible refine pwl_callk (c := ?_) (x := ?_) (f := ?_) (svs := ?_) (cs := ?_) (Qr := ?_) false ?_ ?_ ?_ ?_ ?_ ?_ ?_ ?_ ?_); rotate_left 6; (· (simp [argSlots, *]; done)); (· rfl); (· rfl); (· (simp; with_reducible rfl)); (· (simp; with_reducible rfl)); (· first | (simp [bors, bor]; with_reducible rfl) | (simp [bors, bor, *]; with_reducible rfl)); (· rfl); (· ((with_reducible refine hso))); (rintro sv hsv hsc; clear hsc; obtain rfl := hsv; refine ⟨(by first | (intro _; rfl) | (intro h; cases h)), ?_⟩; refine pwl_runk fun K' S hK' hS => ?_; simp [argSlots, *])) | ((with_reducible refine pwl_callk (c := ?_) (x := ?_) (f := ?_) (svs := ?_) (cs := ?_) (Qr := ?_) false ?_ ?_ ?_ ?_ ?_ ?_ ?_ ?_ ?_); rotate_left 6; (· (simp [argSlots, *]; done)); (· rfl); (· rfl); (· (simp; with_reducible rfl)); (· (simp; with_reducible rfl)); (· first | (simp [bors, bor]; with_reducible rfl) | (simp [bors, bor, *]; with_reducible rfl)); (· rfl); (· ((with_reducible refine hse))); (rintro sv hsv hsc; clear hsc; obtain rfl := hsv; refine ⟨(by first | (intro _; rfl) | (intro h; cases h)), ?_⟩; refine pwl_runk fun K' S hK' hS => ?_; simp [argSlots, *])) | ((with_reducible refine pwl_callk (c := ?_) (x := ?_) (f := ?_) (svs := ?_) (cs := ?_) (Qr := ?_) false ?_ ?_ ?_ ?_ ?_ ?_ ?_ ?_ ?_); rotate_left 6; (· (simp [argSlots, *]; done)); (· rfl); (· rfl); (· (simp; with_reducible rfl)); (· (simp; with_reducible rfl)); (· first | (simp [bors, bor]; with_reducible rfl) | (simp [bors, bor, *]; with_reducible rfl)); (· rfl); (· ((with_reducible refine hdd))); (rintro sv hsv hsc; clear hsc; obtain rfl := hsv; refine ⟨(by first | (intro _; rfl) | (intro h; cases h)), ?_⟩; refine pwl_runk fun K' S hK' hS => ?_; simp [argSlots, *])) | ((with_reducible refine pwl_callk (c := ?_) (x := ?_) (f := ?_) (svs := ?_) (cs := ?_) (Qr := ?_) false ?_ ?_ ?_ ?_ ?_ ?_ ?_ ?_ ?_); rotate_left 6; (· (simp [argSlots, *]; done)); (· rfl); (· rfl); (· (simp; with_reducible rfl)); (· (simp; with_reducible rfl)); (· first | (simp [bors, bor]; with_reducible rfl) | (simp [bors, bor, *]; with_reducible rfl)); (· rfl); (· ((with_reducible refine hdr))); (rintro sv hsv hsc; clear hsc; obtain rfl := hsv; refine ⟨(by first | (intro _; rfl) | (intro h; cases h)), ?_⟩; refine pwl_runk fun K' S hK' hS => ?_; simp [argSlots, *])) | ((with_reducible refine pwl_callk (c := ?_) (x := ?_) (f := ?_) (svs := ?_) (cs := ?_) (Qr := ?_) false ?_ ?_ ?_ ?_ ?_ ?_ ?_ ?_ ?_); rotate_left 6; (· (simp [argSlots, *]; done)); (· rfl); (· rfl); (· (simp; with_reducible rfl)); (· (simp; with_reducible rfl)); (· first | (simp [bors, bor]; with_reducible rfl) | (simp [bors, bor, *]; with_reducible rfl)); (· rfl); (· ((with_reducible refine htd))); (rintro sv hsv hsc; clear hsc; obtain rfl := hsv; refine ⟨(by first | (intro _; rfl) | (intro h; cases h)), ?_⟩; refine pwl_runk fun K' S hK' hS => ?_; simp [argSlots, *])) | ((with_reducible refine pwl_callk (c := ?_) (x := ?_) (f := ?_) (svs := ?_) (cs := ?_) (Qr := ?_) false ?_ ?_ ?_ ?_ ?_ ?_ ?_ ?_ ?_); rotate_left 6; (· (simp [argSlots, *]; done)); (· rfl); (· rfl); (· (simp; with_reducible rfl)); (· (simp; with_reducible rfl)); (· first | (simp [bors, bor]; with_reducible rfl) | (simp [bors, bor, *]; with_reducible rfl)); (· rfl); (· ((with_reducible refine hio))); (rintro sv hsv hsc; clear hsc; obtain rfl := hsv; refine ⟨(by first | (intro _; rfl) | (intro h; cases h)), ?_⟩; refine pwl_runk fun K' S hK' hS => ?_; simp [argSlots, *])) | fail)
            all_goals (refine finC_ret (vs := ?_) [] (by first | exact .inr rfl | exact .inl rfl) rfl ?_ ?_ ?_; rotate_left; (· simp [Tryz.results6, resL, resOf]; rfl); (· first | rfl | (simp [wrapRes, cv, SV.const, constL]; done)); (· first | (simp [wrapRes, cv, *]; done) | (simp [wrapRes, cv, *]; grind) | (simp [wrapRes, cv, *]; omega)))
end Go.Proofs.T1
/- The law DenialOrder holds: for every input that the row lets in, the call returns true and each argument reads as before. Its row lists three package-level tables; the card ties them to the program's text. -/
set_option maxRecDepth 100000
namespace Go.Proofs.YtpnpkigicnmopaaGreatDoor
open Go Go.ChangeShapes Go.WideShapes Go.ChangeAt Go.WideMaps Go.WideElems Go.RowKit Go.Vc Go.Proofs.T1
theorem law6_lifted (os : Os) (started : os.Started) (H : Type) (enc : TypeId × Value → H) :
    ReturnsInHanded {} Tryz.checked os 6 .any (fun w args => (Rows.denialOrderSpec.pre enc Tryz.prog Tryz.f6 [] false w args ∧ laidMetH Tryz.prog laid3 w) ∧ sizedMet enc Tryz.prog Tryz.f6 (OpenSpec.ofChange Rows.denialOrderSpec) false w args)
      (Rows.denialOrderSpec.post enc Tryz.prog Tryz.f6 false true false false) := by
  refine returnsInHanded_of_change_and (C := Tryz.checked) (X := fun w _ => laidMetH Tryz.prog laid3 w) (fun _ _ _ hh h => h.of_heap hh) own started (by kernel_rfl) Tryz.func6
    (ChangeSpec.witness_shaped (enc := enc) (C := Tryz.checked) (os := os) (X := fun w _ => laidMetH Tryz.prog laid3 w) false (World.doorLaid Tryz.prog 400 os) #[.slice none 0 0, .slice none 0 0, .slice none 0 0, .int .u8 0] 8 rfl (World.shaped_of_RefB (by kernel_rfl) (by kernel_rfl)) (by kernel_rfl) (by kernel_rfl) (by kernel_rfl) (door_met os _)) ?_
  intro W base args ds gs before hval0 hW _ _ _ _
  have hval : ∀ (j : Nat) t v, Tryz.f6.params[j]? = some t → args[j]? = some v → Value.okWide Tryz.prog W .any base t v := hval0
  have hW' := hW
  obtain ⟨p, q, hA0, _, _, _, _⟩ := hW
  have hA : DataW.TrodAll enc Tryz.prog W 0 (fun _ => true) true Tryz.f6.params.toList args.toList ds p := hA0
  rw [Tryz.params6] at hA hval
  obtain ⟨v0, vs0, d0, ds0, p0, q0, e0, rfl, rfl, h0, hA0⟩ := trodAll_cons hA
  obtain ⟨v1, vs1, d1, ds1, p1, q1, e1, rfl, rfl, h1, hA1⟩ := trodAll_cons hA0
  subst e1
  obtain ⟨v2, vs2, d2, ds2, p2, q2, e2, rfl, rfl, h2, hA2⟩ := trodAll_cons hA1
  subst e2
  obtain ⟨v3, vs3, d3, ds3, p3, q3, e3, rfl, rfl, h3, hA3⟩ := trodAll_cons hA2
  subst e3
  obtain ⟨e4, rfl, rfl⟩ := trodAll_nil hA3
  subst e4
  obtain rfl : args = #[v0, v1, v2, v3] := by rw [← Array.toArray_toList (xs := args), e0]
  obtain ⟨R0, r0⟩ := arg_rules (hval 0 22 v0 rfl rfl) h0
  obtain ⟨F1, r1⟩ := arg_facts (hval 1 23 v1 rfl rfl) h1
  obtain ⟨b2, r2⟩ := arg_bools (hval 2 47 v2 rfl rfl) h2
  obtain ⟨n3, rfl, hn3⟩ := arg_int Tryz.underlying5 (hval 3 5 v3 rfl rfl) h3
  refine law_post (svs := [.pv (.sl 10 (prules R0)), .pv (.sl 6 (pfacts F1)), .pv (.sl 1 (pbools b2)), .pv (.lit (.int .u8 n3))]) (law6_ok R0 F1 b2 n3 (show IntKind.u8.min ≤ n3 ∧ n3 ≤ IntKind.u8.max by simpa [Lit.wf] using hn3)) rfl (fun j sv u hj hu => ?_) hW' rfl rfl (by kernel_rfl) (by rw [Tryz.params6]; kernel_rfl)
  match j with
  | 0 => simp at hj hu; subst hj hu; exact .pv _ _ r0
  | 1 => simp at hj hu; subst hj hu; exact .pv _ _ r1
  | 2 => simp at hj hu; subst hj hu; exact .pv _ _ r2
  | 3 => simp at hj hu; subst hj hu; exact .pv _ _ (.lit _ rfl)
  | j + 4 => simp at hj
theorem law6_fact9 : (Rows.denialOrderRow.inPlace == Tryz.prog.inPlace 6) = true := by kernel_rfl
theorem law6_fact10 : (Rows.denialOrderRow.unfollowed == Tryz.prog.unfollowed 6) = true := by kernel_rfl
theorem law6_fact11 : (Rows.denialOrderRow.recurses == Tryz.prog.recurses 6) = true := by kernel_rfl
theorem law6_fact12 : (Rows.denialOrderRow.named == Tryz.prog.varsNamed 6) = true := by kernel_rfl
theorem law6_fact16 : (Rows.denialOrderRow.loops == (Tryz.f6.params.toList ++ Rows.denialOrderSpec.plain.varTypes Tryz.prog).any (Tryz.prog.loopsFrom ·)) = true := by kernel_rfl
theorem law6_facts : joinedFacts Tryz.prog 6 Tryz.f6 Rows.denialOrderSpec Rows.denialOrderRow = true :=
  joined (by kernel_rfl) (by kernel_rfl) (by kernel_rfl) (by kernel_rfl) (by kernel_rfl) law6_fact9 law6_fact10 law6_fact11 law6_fact12 (by kernel_rfl) (by kernel_rfl) (by kernel_rfl) law6_fact16 (by kernel_rfl) (by kernel_rfl) (by kernel_rfl) (by kernel_rfl) (by kernel_rfl) (by kernel_rfl) (by kernel_rfl) rfl rfl (by kernel_rfl) (by kernel_rfl) (by kernel_rfl) (by kernel_rfl)
theorem law6_named : Tryz.prog.funcNamed "cleanse/cleanselaw25.DenialOrder" = some 6 := by kernel_rfl
theorem law6_plain : Tryz.f6.isInstance Tryz.prog Rows.denialOrderRow.origin Rows.denialOrderRow.targs := of_decide_eq_true (by kernel_rfl)
theorem law6_own : Tryz.f6.isWrapper Tryz.prog Rows.denialOrderRow.wrapper Rows.denialOrderRow.mainSum := by
  unfold Func.isWrapper; first | (rw [if_pos (by decide +kernel)]; kernel_rfl) | (rw [if_neg (by decide +kernel)]; exact ⟨rfl, rfl⟩)
theorem law6_goes : false = Rows.denialOrderRow.goesBy Tryz.prog := by kernel_rfl
theorem law6_text : Rows.denialOrderRow.wfByText (OpenSpec.ofChange Rows.denialOrderSpec) = true := by kernel_rfl
theorem law6_said : Rows.DenialOrderSaid :=
  OpenClaim.holds_of_wide 6 Tryz.f6 rfl rfl rfl rfl rfl rfl rfl ⟨rfl, rfl, rfl, rfl, rfl⟩ rfl rfl rfl rfl rfl law6_named Tryz.func6 law6_facts law6_plain law6_own
    (fun os started H enc _ => law6_lifted os started H enc)
theorem law6_holds : Rows.DenialOrderCardSaid :=
  Claim7.holds_tied_plain_at .later [] [.data, .data, .data] true (true, "49c22cd40531e0a5935ea59eb1785f2fd0eb702db4aed61b97646984eda5cce0") true
    law6_said (fun _ h => by cases h) law6_text (fun _ h => by cases h) denialOrder_row_tie rfl ⟨rfl, rfl⟩ tryz_main rfl
    (fun f fn hf hfn => by
      obtain rfl : f = 6 := (Option.some.inj (law6_named.symm.trans hf)).symm
      obtain rfl : fn = Tryz.f6 := (Option.some.inj (Tryz.func6.symm.trans hfn)).symm
      exact ⟨tryz_looks, fun j t ht => by
        rw [Tryz.params6] at ht
        have hm : t ∈ [22, 23, 47, 5] := by simpa using Array.mem_of_getElem? ht
        have hall : ([22, 23, 47, 5].all fun u => !Tryz.prog.wantsStandIn u) = true := by kernel_rfl
        exact (show Tryz.prog.wantsStandIn t = false by simpa using List.all_eq_true.1 hall t hm)⟩)
    law6_goes
end Go.Proofs.YtpnpkigicnmopaaGreatDoor
