import Derived.Test.YtpnpkigicnmopaaGreatDoorL9C
import Derived.Lib.AppendStr
import Derived.Laws.Append
import Derived.Laws.IdiomStrings
import Derived.Ground.SlsfProg
import Derived.Shelf.SlSortCmp.Whole1
import Derived.Shelf.SlSortCmp.NoneTotal
import Derived.Test.YtpnpkigicnmopaaGreatDoorProg
import Derived.Test.YtpnpkigicnmopaaGreatDoorTie
import Derived.Test.YtpnpkigicnmopaaGreatDoorCards
import Derived.ProofKit
import Derived.LaidMore
import Derived.OpenShut
import Derived.Stop.Joined
import Derived.SevenTiedAt
/- The law DenialVariants holds: for every input that its row lets in, the call returns true and each argument reads as before. The row lists three package-level tables, which the card ties to the program's text. -/
set_option linter.unusedVariables false
set_option linter.unusedSimpArgs false
set_option linter.unnecessarySimpa false
set_option linter.all false
namespace Go.Proofs.T1
open Go.Vc
open Tryz
set_option linter.unusedSimpArgs false
set_option linter.unusedVariables false
set_option maxHeartbeats 4000000
set_option maxRecDepth 20000
attribute [local simp] runD_nil runD_cons runDO runDG runDV stabs stabO stabG runK_nil runK_cons runG_t runG_f runS_some runS_none gate dstOf step2 step1 vq vop vlook mput mfind isKeyB keq fin1 hbox halloc hstore hbuild hbuildSlice happend hmake vslice bound vbuild partsOf elemsOf inOrder topvs toPV svCells splice srcOf isNil St.ev St.evs St.fits St.put St.new St.upd St.frzs St.frz lk hset litOf vbuiltin vlen vbin vindex vfield vload rdc pvs capsOf Value.oneCell'
attribute [local simp] tsz3 tagg3 tbytes3 tint3 tzero3 tzero1_3 tsz4 tagg4 tbytes4 tbool4 tzero4 tzero1_4 tsz5 tagg5 tbytes5 tint5 tzero5 tzero1_5 tsz9 tagg9 tbytes9 tstr9 tzero9 tzero1_9 tsz22 tagg22 tel22 tbytes22 tzero22 tzero1_22 tsz23 tagg23 tel23 tbytes23 tzero23 tzero1_23 tsz24 tagg24 tel24 tbytes24 tzero24 tzero1_24 tsz25 tagg25 tbytes25 tzero25 tzero1_25 tsz29 tagg29 tel29 tbytes29 tzero29 tzero1_29 tsz30 tagg30 tel30 tbytes30 tzero30 tzero1_30 tsz32 tagg32 tbytes32 tzero32 foff32_0 foff32_1 foff32_2 foff32_3 foff32_4 foff32_5 foff32_6 foff32_7 foff32_8 foff32_9 tsz33 tagg33 tel33 tbytes33 tzero33 tzero1_33 tsz34 tagg34 tbytes34 tint34 tzero34 tzero1_34 tsz38 tagg38 tbytes38 tzero38 foff38_0 foff38_1 foff38_2 tsz47 tagg47 tel47 tbytes47 tzero47 tzero1_47 tsz52 tagg52 tel52 tbytes52 tzero52 tzero1_52 tsz54 tagg54 tbytes54 tzero54 foff54_0 foff54_1 foff54_2 foff54_3 foff54_4 foff54_5 tsz79 tagg79 tbytes79 tzero79 foff79_0 foff79_1 foff79_2 tsz117 tagg117 tbytes117 tzero117 foff117_0 foff117_1 foff117_2 tsz119 tagg119 tbytes119 tzero119 foff119_0 foff119_1 tsz121 tagg121 tbytes121 tzero121 foff121_0 foff121_1 foff121_2 foff121_3 tsz129 tagg129 tbytes129 tzero129 tzero1_129 tsz130 tagg130 tbytes130 tzero130 tzero1_130 tsz132 tagg132 tbytes132 tzero132 tzero1_132 tsz206 tagg206 tbytes206 tzero206 tzero1_206 mtype206 tsz208 tagg208 tbytes208 tsz217 tagg217 tel217 tbytes217 tzero217 tzero1_217 tsz220 tagg220 tbytes220 tzero220 foff220_0 foff220_1 tsz235 tagg235 tel235 tbytes235 tzero235 tzero1_235 tsz256 tagg256 tbytes256 tzero256 tzero1_256 mtype256 tsz351 tagg351 tbytes351 tzero351 tsz2 tagg2 tbytes2 tint2 tzero2 tzero1_2 tsz291 tagg291 tbytes291 tint291 tzero291 tzero1_291 sized32 places32_0 places32_1 places32_2 places32_3 places32_4 places32_5 places32_6 places32_7 places32_8 places32_9 sized38 places38_0 places38_1 places38_2 sized54 places54_0 places54_1 places54_2 places54_3 places54_4 places54_5 sized79 places79_0 places79_1 places79_2 sized117 places117_0 places117_1 places117_2 sized119 places119_0 places119_1 sized121 places121_0 places121_1 places121_2 places121_3 sized220 places220_0 places220_1
section
attribute [local simp] V.c V.z Sd.c Tst.c Fx.c Rl.c Fc.c Gr.c wrap1f take_map_len take_map_len1 wrap1 wrap2 wrap3
abbrev caE (p : Nat) : List (Nat × Nat) := [(p + 1, 0), (p, 0)]
abbrev HE (F : List Fc) (cs : List Int) (p : Nat) : List (Nat × ABlk) := [(p + 1, .box [.pv (.sl 1 (ints cs))]), (p, .box [.pv (.sl 6 (pfacts F))])]
abbrev excV (F : List Fc) (cs : List Int) : List SV := (excs F [] cs).map fun s => .pv (.sl 1 (ints s))
theorem exc_it {F : List Fc} {cs : List Int} (p : Nat) (hcs : cs.length ≤ 1000000) (hcr : Rng F cs) : ItC Tryz.prog 197 (caE p) (HE F cs p) (fun _ => True) (excV F cs) := by
  intro y nx H C D _ hstep hmono hdis h0
  refine PC.dom enters197 fun hdom => ?_
  have hp1 : p + 1 < nx := hdom _ (.box [.pv (.sl 1 (ints cs))]) (lk_append_left (by simp [HE, lk]))
  have hHn : lk nx H = none := by
    cases hx : lk nx H with
    | none => rfl
    | some b => have := hdom nx b (by rw [lk_append_right]; exact hx; (simp only [HE, lk]; rw [if_neg (by omega), if_neg (by omega)])); omega
  clear hdom
  have ne_nx_p : ¬ nx = p := by omega
  have ne_nx_p' : ¬ p = nx := by omega
  have ne_nx_p___1 : ¬ nx = p + 1 := by omega
  have ne_nx_p___1' : ¬ p + 1 = nx := by omega
  refine pc_of_pw' (fn := Tryz.f197) Tryz.func197 rfl enters197 Tryz.ntmps197 (by simp [capRefs]) (pw_of_pws ?_)
  simp only [capRefs, List.map_cons, List.map_nil, argSlots]
  repeat' (first | with_reducible refine pws_seq ?_ | with_reducible refine pws_block ?_ | ((with_reducible refine pws_regk fun K' S hK' hS => ?_); simp [argSlots, *]) | ((with_reducible refine Goes.go hK' ?_); clear hK' hS; clear K' S))
  refine pws_loop (α := { v : Nat × Nat × Nat × List (Nat × SV × SV) × List (Nat × ABlk) × List (Nat × ABlk) // v.1 ≤ cs.length }) (fun v => { n := 61, nx := v.1.2.1, s := [(13, sint v.1.1), (12, sint cs.length), (11, .pv (.sl 1 (ints cs))), (4, .mp nx), (0, .yld y), (1, .ref (p + 1) 0), (2, .ref p 0)], h := v.1.2.2.2.2.1 ++ v.1.2.2.2.2.2, d := [] }) (fun v => cs.length - v.1.1)
    (fun v => lk nx v.1.2.2.2.2.1 = some (.map v.1.2.2.1 v.1.2.2.2.1) ∧ lk (p + 1) v.1.2.2.2.2.1 = some (.box [.pv (.sl 1 (ints cs))]) ∧ lk p v.1.2.2.2.2.1 = some (.box [.pv (.sl 6 (pfacts F))]) ∧ GX F (cs.take v.1.1) v.1.2.2.2.1 v.1.2.2.2.2.1 ∧ disj v.1.2.2.2.2.1 v.1.2.2.2.2.2 ∧ C (excV F (cs.take v.1.1)) v.1.2.1 v.1.2.2.2.2.2 ∧ nx ≤ v.1.2.1)
    ⟨(0, nx + 1, 0, [], (nx, .map 0 []) :: HE F cs p, H), by simp⟩ ⟨by simp [lk], by simp [HE, lk, *], by simp [HE, lk, *], fun e => .inl ⟨rfl, rfl⟩, ?_, by simpa [excV, excs] using hmono _ _ _ _ h0 (by omega), by simp⟩ (ent_keep rfl rfl rfl (fun t sv h => SubL.get (by simp [SubL, *]) h) (fun i b h => h)) ?_
  · intro i b hl
    simp only [lk] at hl
    split at hl
    · rename_i e; subst e; exact hHn
    · exact hdis i b hl
  clear hdis h0 hHn
  rintro ⟨⟨k, nx1, clock, es, Hm, H1⟩, hk⟩ ⟨hm, hb1, hb0, hG, hdis, hC, hnx⟩ K hK
  simp only at hk hm hb1 hb0 hG hdis hC hnx
  refine PWs.dom fun hdomk => ?_
  simp only at hdomk
  have hdm : ∀ i b, lk i Hm = some b → i < nx1 := fun i b hl => hdomk i b (lk_append_left hl)
  have h1m : nx < nx1 := hdm _ _ hm
  have hd1 : ∀ i, nx1 ≤ i → lk i H1 = none := fun i hi => by
    cases hx : lk i H1 with
    | none => rfl
    | some b =>
      cases hy : lk i Hm with
      | none => have := hdomk i b (by rw [lk_append_right hy]; exact hx); omega
      | some c => rw [hdis i c hy] at hx; cases hx
  clear hdomk
  have hHm0 : ∀ i, nx1 ≤ i → lk i Hm = none := fun i hi => by
    cases hx : lk i Hm with
    | none => rfl
    | some b => have := hdm i b hx; omega
  have hhs : ∀ B i, nx1 ≤ i → lk i (hset nx B Hm ++ H1) = none := fun B i hi => by rw [lk_app, lk_hset_other (by omega), hHm0 i hi, hd1 i hi]; rfl
  have ne_nx1_p : ¬ nx1 = p := by omega
  have ne_nx1_p' : ¬ p = nx1 := by omega
  have ne_nx1_p___1 : ¬ nx1 = p + 1 := by omega
  have ne_nx1_p___1' : ¬ p + 1 = nx1 := by omega
  have ne_nx1_nx : ¬ nx1 = nx := by omega
  have ne_nx1_nx' : ¬ nx = nx1 := by omega
  have ne_nx1___1_p : ¬ nx1 + 1 = p := by omega
  have ne_nx1___1_p' : ¬ p = nx1 + 1 := by omega
  have ne_nx1___1_p___1 : ¬ nx1 + 1 = p + 1 := by omega
  have ne_nx1___1_p___1' : ¬ p + 1 = nx1 + 1 := by omega
  have ne_nx1___1_nx : ¬ nx1 + 1 = nx := by omega
  have ne_nx1___1_nx' : ¬ nx = nx1 + 1 := by omega
  have ne_nx1___1_nx1 : ¬ nx1 + 1 = nx1 := by omega
  have ne_nx1___1_nx1' : ¬ nx1 = nx1 + 1 := by omega
  have ne_nx1___1___1_p : ¬ nx1 + 1 + 1 = p := by omega
  have ne_nx1___1___1_p' : ¬ p = nx1 + 1 + 1 := by omega
  have ne_nx1___1___1_p___1 : ¬ nx1 + 1 + 1 = p + 1 := by omega
  have ne_nx1___1___1_p___1' : ¬ p + 1 = nx1 + 1 + 1 := by omega
  have ne_nx1___1___1_nx : ¬ nx1 + 1 + 1 = nx := by omega
  have ne_nx1___1___1_nx' : ¬ nx = nx1 + 1 + 1 := by omega
  have ne_nx1___1___1_nx1 : ¬ nx1 + 1 + 1 = nx1 := by omega
  have ne_nx1___1___1_nx1' : ¬ nx1 = nx1 + 1 + 1 := by omega
  have ne_nx1___1___1_nx1___1 : ¬ nx1 + 1 + 1 = nx1 + 1 := by omega
  have ne_nx1___1___1_nx1___1' : ¬ nx1 + 1 = nx1 + 1 + 1 := by omega
  by_cases h1 : k < cs.length
  · have hw := wrap64_id (n := (k : Int) + 1) (by omega)
    obtain ⟨cq, hcq, hcF⟩ := hcr.at h1
    have hfc : fc F cs[k] = F[cq] := by rw [hcq, fc_nat, nf_get hcF]
    have hex := excs_step (F := F) h1
    rw [hfc] at hex
    rcases hG F[cq].entity with ⟨hs, hmf⟩ | ⟨hs, j0, id, g, hmf, hid⟩
    · simp only [hs, List.filter_nil, List.map_nil, List.append_nil] at hex
      repeat' (first | with_reducible refine pws_seq ?_ | with_reducible refine pws_skip ?_ | with_reducible refine pws_block ?_ | ((with_reducible refine pws_regk fun K' S hK' hS => ?_); simp [argSlots, lk_app, *]) | ((with_reducible refine Goes.go hK' ?_); clear hK' hS; clear K' S) | ((with_reducible refine pws_true ?_ ?_); (· simp; done)))
      refine pws_loop (α := Unit) (fun _ => { n := 61, nx := nx1 + 1, s := [(26, sint 0), (25, sint 0), (7, .ref nx1 0), (6, sint cq), (13, sint k), (12, sint cs.length), (11, .pv (.sl 1 (ints cs))), (4, .mp nx), (0, .yld y), (1, .ref (p + 1) 0), (2, .ref p 0)], h := (nx1, .box (F[cq].c.map .pv)) :: (Hm ++ H1), d := [] }) (fun _ => 0) (fun _ => True) () trivial (ent_keep rfl rfl rfl (fun t sv h => SubL.get (by simp [SubL, *]) h) (fun i b h => h)) ?_
      rintro ⟨⟩ - K2 -
      repeat' (first | with_reducible refine pws_seq ?_ | ((with_reducible refine pws_regk fun K' S hK' hS => ?_); simp [argSlots, lk_app, hset_app hm, *]) | ((with_reducible refine Goes.go hK' ?_); clear hK' hS; clear K' S) | ((with_reducible refine pws_false ?_ ?_); (· simp; done)) | with_reducible refine blk_normal ?_ | with_reducible refine blk_same ?_ | with_reducible refine thenQ_exit ?_ | with_reducible refine thenQ_normal ?_ | with_reducible refine pws_nil ?_ | with_reducible refine pws_exit ?_ | ((with_reducible refine pws_drawk [8, 9, 10] [0, 1, 2, 3, 4, 5, 6, 7, 8, 9, 10] [] ?_ fun K' S hK' hS => ?_); (· decide +kernel); simp [argSlots, lk_app, hset_app hm, *]) | ((with_reducible refine GoesD.go hS ?_); clear hK' hS; clear K' S) | ((with_reducible refine pwd_step2 (eff := [8, 9, 10]) (i := 8) (c := [7, 6, 5, 4, 3, 2, 1, 0]) (c' := [6, 5, 4, 3, 2, 1, 0]) (o := ?_) (st' := ?_) ?_ ?_ ?_ ?_ ?_ ?_ ?_); rotate_left 2; (· rfl); (· rfl); (· (simp [argSlots, lk_app, hset_app hm, *]; done)); (· (simp [argSlots, lk_app, hset_app hm, *]; done)); (· decide +kernel); (· (simp [argSlots, lk_app, hset_app hm, *]; with_reducible rfl)); refine pwd_runk fun K' S hK' hS => ?_; simp [argSlots, lk_app, hset_app hm, *]) | ((with_reducible refine pwd_step2 (eff := [8, 9, 10]) (i := 9) (c := [6, 5, 4, 3, 2, 1, 0]) (c' := [2, 1, 0]) (o := ?_) (st' := ?_) ?_ ?_ ?_ ?_ ?_ ?_ ?_); rotate_left 2; (· rfl); (· rfl); (· (simp [argSlots, lk_app, hset_app hm, *]; done)); (· (simp [argSlots, lk_app, hset_app hm, *]; done)); (· decide +kernel); (· (simp [argSlots, lk_app, hset_app hm, *]; with_reducible rfl)); refine pwd_runk fun K' S hK' hS => ?_; simp [argSlots, lk_app, hset_app hm, *]) | ((with_reducible refine pwd_step2 (eff := [8, 9, 10]) (i := 10) (c := [2, 1, 0]) (c' := []) (o := ?_) (st' := ?_) ?_ ?_ ?_ ?_ ?_ ?_ ?_); rotate_left 2; (· rfl); (· rfl); (· (simp [argSlots, lk_app, hset_app hm, *]; done)); (· (simp [argSlots, lk_app, hset_app hm, *]; done)); (· decide +kernel); (· (simp [argSlots, lk_app, hset_app hm, *]; with_reducible rfl)); refine pwd_runk fun K' S hK' hS => ?_; simp [argSlots, lk_app, hset_app hm, *]))
      refine hK _ ⟨(k + 1, nx1 + 1 + 1 + 1, clock + 1, es ++ [(clock, .pv (pint F[cq].entity), .loc 1 (nx1 + 1 + 1) 0 0 1)], (nx1 + 1 + 1, .arr 3 1 0 false [[pint cq]]) :: hset nx (.map (clock + 1) (es ++ [(clock, .pv (pint F[cq].entity), .loc 1 (nx1 + 1 + 1) 0 0 1)])) Hm, H1), by simp; omega⟩
        (ent_keep rfl rfl rfl (fun t sv h => SubL.get (by simp [SubL, *]) h) (fun i b h => ?_)) ⟨?_, ?_, ?_, ?_, ?_, ?_, by simp; omega⟩ (by simp; omega)
      · simp only [List.cons_append, lk] at h ⊢
        split at h
        · rename_i e; rw [if_pos e]; exact h
        · rename_i e
          rw [if_neg e]
          exact lk_skip (by simp only [lk]; rw [if_neg (by omega)]; exact hhs _ _ (by omega)) (lk_skip (hhs _ _ (by omega)) h)
      · simp only [lk]; rw [if_neg (by omega)]; exact lk_hset_same hm
      · simp only [lk]; rw [if_neg (by omega), lk_hset_other (by omega)]; exact hb1
      · simp only [lk]; rw [if_neg (by omega), lk_hset_other (by omega)]; exact hb0
      · simp only [List.take_succ_eq_append_getElem h1, hcq]
        refine GX_new hG (by rw [fc_nat, nf_get hcF]) hs (fun i g xs hl => ?_) (if_pos rfl)
        have := hdm _ _ hl
        simp only [lk]
        rw [if_neg (by omega), lk_hset_other (fun e => by subst e; rw [hl] at hm; cases hm)]
        exact hl
      · exact disj_cons (hd1 _ (by omega)) (disj_hset hdis)
      · simp only [excV, hex]; exact hmono _ _ _ _ hC (by omega)
    · have hlp : 0 < (sel F (cs.take k) F[cq].entity).length := List.length_pos_iff.2 hs
      have hll : (sel F (cs.take k) F[cq].entity).length ≤ 1000000 := Nat.le_trans (List.length_filter_le _ _) (by simp; omega)
      have hlr : Rng F (sel F (cs.take k) F[cq].entity) := fun x hx => hcr x (List.mem_of_mem_take (List.mem_filter.1 hx).1)
      have hgo := fun c Hm' q => GX_old (q := q) (Hm' := Hm') (c := c) hG (e := F[cq].entity) (j := j0) (id := id) (g := g)
      generalize sel F (cs.take k) F[cq].entity = Fe at *
      have hdi := hdm _ _ hid
      have hni : ¬ id = nx := fun e => by subst e; rw [hid] at hm; cases hm
      have hni' : ¬ nx = id := fun e => hni e.symm
      have ne_nx1_id : ¬ nx1 = id := by omega
      have ne_nx1_id' : ¬ id = nx1 := by omega
      repeat' (first | with_reducible refine pws_seq ?_ | with_reducible refine pws_skip ?_ | with_reducible refine pws_block ?_ | ((with_reducible refine pws_regk fun K' S hK' hS => ?_); simp [argSlots, lk_app, *]) | ((with_reducible refine Goes.go hK' ?_); clear hK' hS; clear K' S) | ((with_reducible refine pws_true ?_ ?_); (· simp; done)))
      refine pws_loop (α := { v : Nat × Nat × List (Nat × ABlk) // v.1 ≤ Fe.length }) (fun v => { n := 61, nx := v.1.2.1, s := [(26, sint v.1.1), (25, sint Fe.length), (24, .loc 1 id g 0 Fe.length), (7, .ref nx1 0), (6, sint cq), (13, sint k), (12, sint cs.length), (11, .pv (.sl 1 (ints cs))), (4, .mp nx), (0, .yld y), (1, .ref (p + 1) 0), (2, .ref p 0)], h := (nx1, .box (F[cq].c.map .pv)) :: (Hm ++ v.1.2.2), d := [] }) (fun v => Fe.length - v.1.1)
        (fun v => disj ((nx1, .box (F[cq].c.map .pv)) :: Hm) v.1.2.2 ∧ C (excV F (cs.take k) ++ (((Fe.take v.1.1).filter (excOk F cq)).map fun b => .pv (.sl 1 (ints [b, (cq : Int)])))) v.1.2.1 v.1.2.2 ∧ nx1 + 1 ≤ v.1.2.1)
        ⟨(0, nx1 + 1, H1), by simp⟩ ⟨disj_cons (hd1 _ (by omega)) hdis, by simpa using hmono _ _ _ _ hC (by omega), by simp⟩ (ent_keep rfl rfl rfl (fun t sv h => SubL.get (by simp [SubL, *]) h) (fun i b h => h)) ?_
      clear hdis hC hd1
      rintro ⟨⟨j, nx2, H2⟩, hj⟩ ⟨hdis, hC, hn2⟩ K2 hK2
      simp only at hj hdis hC hn2
      refine PWs.dom fun hdk => ?_
      simp only at hdk
      have hdk0 : ∀ i b, lk i (Hm ++ H2) = some b → i < nx2 := fun i b hl => by
        by_cases e : i = nx1
        · omega
        · exact hdk i b (by simp only [lk]; rw [if_neg (fun x => e x.symm)]; exact hl)
      have hd2 : ∀ i, nx2 ≤ i → lk i H2 = none := fun i hi => by
        cases hx : lk i H2 with
        | none => rfl
        | some b => have := hdk0 i b (by rw [lk_app, hHm0 i (by omega), hx]; rfl); omega
      clear hdk hdk0
      have ne_nx2_p : ¬ nx2 = p := by omega
      have ne_nx2_p' : ¬ p = nx2 := by omega
      have ne_nx2_p___1 : ¬ nx2 = p + 1 := by omega
      have ne_nx2_p___1' : ¬ p + 1 = nx2 := by omega
      have ne_nx2_nx : ¬ nx2 = nx := by omega
      have ne_nx2_nx' : ¬ nx = nx2 := by omega
      have ne_nx2_id : ¬ nx2 = id := by omega
      have ne_nx2_id' : ¬ id = nx2 := by omega
      have ne_nx2_nx1 : ¬ nx2 = nx1 := by omega
      have ne_nx2_nx1' : ¬ nx1 = nx2 := by omega
      have ne_nx2___1_p : ¬ nx2 + 1 = p := by omega
      have ne_nx2___1_p' : ¬ p = nx2 + 1 := by omega
      have ne_nx2___1_p___1 : ¬ nx2 + 1 = p + 1 := by omega
      have ne_nx2___1_p___1' : ¬ p + 1 = nx2 + 1 := by omega
      have ne_nx2___1_nx : ¬ nx2 + 1 = nx := by omega
      have ne_nx2___1_nx' : ¬ nx = nx2 + 1 := by omega
      have ne_nx2___1_id : ¬ nx2 + 1 = id := by omega
      have ne_nx2___1_id' : ¬ id = nx2 + 1 := by omega
      have ne_nx2___1_nx1 : ¬ nx2 + 1 = nx1 := by omega
      have ne_nx2___1_nx1' : ¬ nx1 = nx2 + 1 := by omega
      have ne_nx2___1_nx2 : ¬ nx2 + 1 = nx2 := by omega
      have ne_nx2___1_nx2' : ¬ nx2 = nx2 + 1 := by omega
      have hsp : disj ((nx1, .box (F[cq].c.map .pv)) :: Hm) H2 := hdis
      by_cases h2 : j < Fe.length
      · have hw2 := wrap64_id (n := (j : Int) + 1) (by omega)
        obtain ⟨bq, hbq, hbF⟩ := hlr.at h2
        have hfb : fc F (bq : Int) = F[bq] := by rw [fc_nat, nf_get hbF]
        have hfq : fc F (cq : Int) = F[cq] := by rw [fc_nat, nf_get hcF]
        by_cases hok : F[cq].variant = -1 ∧ F[bq].variant = -1
        · obtain ⟨hv1', hv2'⟩ := hok
          have hv1 : decide (F[cq].variant = -1) = true := decide_eq_true hv1'
          have hv2 : decide (F[bq].variant = -1) = true := decide_eq_true hv2'
          have htk : ((Fe.take (j + 1)).filter (excOk F cq)) = (Fe.take j).filter (excOk F cq) := by
            rw [List.take_succ_eq_append_getElem h2, List.filter_append, hbq]
            simp [excOk, hfb, hfq, hv1', hv2']
          clear hv1' hv2'
          repeat' (first | with_reducible refine pws_seq ?_ | with_reducible refine pws_skip ?_ | with_reducible refine pws_block ?_ | ((with_reducible refine pws_regk fun K' S hK' hS => ?_); simp [argSlots, lk_app, *]) | ((with_reducible refine Goes.go hK' ?_); clear hK' hS; clear K' S) | ((with_reducible refine pws_true ?_ ?_); (· simp; done)) | ((with_reducible refine pws_false ?_ ?_); (· simp; done)) | with_reducible refine blk_normal ?_ | with_reducible refine thenQ_normal ?_ | with_reducible refine pws_nil ?_)
          refine hK2 _ ⟨(j + 1, nx2, H2), by simp; omega⟩ (ent_keep rfl rfl rfl (fun t sv h => SubL.get (by simp [SubL, *]) h) (fun i b h => h)) ⟨hdis, by simp only [htk]; exact hC, hn2⟩ (by simp; omega)
        · have htk : ((Fe.take (j + 1)).filter (excOk F cq)) = (Fe.take j).filter (excOk F cq) ++ [(bq : Int)] := by
            rw [List.take_succ_eq_append_getElem h2, List.filter_append, hbq]
            simp [excOk, hfb, hfq]
            omega
          have htk2 : (excV F (cs.take k) ++ (((Fe.take (j + 1)).filter (excOk F cq)).map fun b => SV.pv (.sl 1 (ints [b, (cq : Int)])))) = (excV F (cs.take k) ++ (((Fe.take j).filter (excOk F cq)).map fun b => .pv (.sl 1 (ints [b, (cq : Int)])))) ++ [.pv (.sl 1 (ints [(bq : Int), (cq : Int)]))] := by
            rw [htk]; simp
          have hspl : ∃ Z, excV F cs = (excV F (cs.take k) ++ (((Fe.take j).filter (excOk F cq)).map fun b => .pv (.sl 1 (ints [b, (cq : Int)])))) ++ .pv (.sl 1 (ints [(bq : Int), (cq : Int)])) :: Z := by
            have hx : excs F [] cs = excs F [] (cs.take (k + 1)) ++ excs F (cs.take (k + 1)) (cs.drop (k + 1)) := by
              have := excs_append (F := F) (l1 := cs.take (k + 1)) (l2 := cs.drop (k + 1)) (s := [])
              rw [List.take_append_drop, List.nil_append] at this
              exact this
            have hy : Fe.filter (excOk F cq) = (Fe.take j).filter (excOk F cq) ++ (bq : Int) :: (Fe.drop (j + 1)).filter (excOk F cq) := by
              have := List.take_append_drop (j + 1) Fe
              rw [← this, List.filter_append, this, htk]
              simp
            refine ⟨((Fe.drop (j + 1)).filter (excOk F cq)).map (fun b => SV.pv (.sl 1 (ints [b, (cq : Int)]))) ++ (excs F (cs.take (k + 1)) (cs.drop (k + 1))).map fun s => SV.pv (.sl 1 (ints s)), ?_⟩
            unfold excV
            rw [hx, hex, hcq, hy]
            simp [List.map_append, Function.comp_def]
          obtain ⟨Z, hspl⟩ := hspl
          by_cases hv1 : F[cq].variant = -1
          · have hv2 : ¬ F[bq].variant = -1 := fun h => hok ⟨hv1, h⟩
            replace hv1 : decide (F[cq].variant = -1) = true := decide_eq_true hv1
            repeat' (first | with_reducible refine pws_seq ?_ | with_reducible refine pws_skip ?_ | with_reducible refine pws_block ?_ | ((with_reducible refine pws_regk fun K' S hK' hS => ?_); simp [argSlots, lk_app, *]) | ((with_reducible refine Goes.go hK' ?_); clear hK' hS; clear K' S) | ((with_reducible refine GoesS.go hS ?_); clear hK' hS; clear K' S) | ((with_reducible refine pws_true ?_ ?_); (· simp; done)))
            clear hok htk
            refine PWl.ent (ent_froz (xs := [[pint bq], [pint cq]]) (v := 45) (s' := [(42, .yld y), (41, sbool true), (26, sint j), (25, sint Fe.length), (24, .loc 1 id g 0 Fe.length), (7, .ref nx1 0), (6, sint cq), (13, sint k), (12, sint cs.length), (11, .pv (.sl 1 (ints cs))), (4, .mp nx), (0, .yld y), (1, .ref (p + 1) 0), (2, .ref p 0)]) (by simp [lk]) (by simp [SubL, *]) (by simp only [lk]; rw [if_neg (by omega), lk_app, hHm0 _ (by omega), hd2 _ (by omega)]; rfl)) ?_
            refine PWl.ent (st' := { n := 61, nx := nx2 + 1, s := [(45, .pv (.sl 1 (ints [(bq : Int), (cq : Int)]))), (42, .yld y), (41, sbool true), (26, sint j), (25, sint Fe.length), (24, .loc 1 id g 0 Fe.length), (7, .ref nx1 0), (6, sint cq), (13, sint k), (12, sint cs.length), (11, .pv (.sl 1 (ints cs))), (4, .mp nx), (0, .yld y), (1, .ref (p + 1) 0), (2, .ref p 0)], h := ((nx1, .box (F[cq].c.map .pv)) :: Hm) ++ H2, d := [] }) (ent_keep rfl rfl rfl (fun t sv h => SubL.get (by simp [SubL, *]) h) (fun i b h => h)) ?_
            refine pwl_yieldk (c := ?_) (x := ?_) (y := y) (svs := [.pv (.sl 1 (ints [(bq : Int), (cq : Int)]))]) (own := (nx1, .box (F[cq].c.map .pv)) :: Hm) (Hs := H2) (Qr := _) ?_ ?_ ?_ ?_ ?_ ?_ rfl (hdis) (hstep _ _ _ hspl _ _ (hmono _ _ _ _ hC (by show nx2 ≤ nx2 + 1; omega))) ?_; rotate_left 2; (· first | rfl | (simp [*]; done)); (· rfl); (· rfl); (· first | rfl | (simp; done)); (· first | rfl | (simp; done)); (· rfl); rintro sv nx' H' hq hn hd; simp only at hn; rcases hq with ⟨rfl, hc⟩ | ⟨rfl, hc⟩
            · refine pwl_runk fun K' S hK' hS => ?_; simp [*]
              repeat' (first | with_reducible refine pws_skip ?_ | ((with_reducible refine pws_regk fun K' S hK' hS => ?_); simp [argSlots, lk_app, *]) | ((with_reducible refine Goes.go hK' ?_); clear hK' hS; clear K' S) | ((with_reducible refine pws_false ?_ ?_); (· simp; done)) | with_reducible refine blk_normal ?_ | with_reducible refine thenQ_normal ?_ | with_reducible refine pws_nil ?_)
              refine hK2 _ ⟨(j + 1, nx', H'), by simp; omega⟩ (ent_keep rfl rfl rfl (fun t sv h => SubL.get (by simp [SubL, *]) h) (fun i b h => h)) ⟨hd, by simp only [htk2]; exact hc, by simp; omega⟩ (by simp; omega)
            · refine pwl_runk fun K' S hK' hS => ?_; simp [*]
              repeat' (first | ((with_reducible refine Goes.go hK' ?_); clear hK' hS; clear K' S) | ((with_reducible refine pws_true ?_ ?_); (· simp; done)) | with_reducible refine pws_ret ?_ | with_reducible refine blk_ret ?_ | with_reducible refine thenQ_ret ?_)
              refine finP_end (vs := []) (.inr rfl) (ent_keep (st' := { n := 61, nx := nx', s := [], h := H', d := [] }) rfl rfl rfl (fun t sv h => by cases h) (disj_sub hd)) rfl rfl ?_
              exact .inr ⟨_, hc⟩
          · repeat' (first | with_reducible refine pws_seq ?_ | with_reducible refine pws_skip ?_ | with_reducible refine pws_block ?_ | ((with_reducible refine pws_regk fun K' S hK' hS => ?_); simp [argSlots, lk_app, *]) | ((with_reducible refine Goes.go hK' ?_); clear hK' hS; clear K' S) | ((with_reducible refine GoesS.go hS ?_); clear hK' hS; clear K' S) | ((with_reducible refine pws_true ?_ ?_); (· simp; done)))
            clear hok htk
            refine PWl.ent (ent_froz (xs := [[pint bq], [pint cq]]) (v := 45) (s' := [(42, .yld y), (41, sbool true), (26, sint j), (25, sint Fe.length), (24, .loc 1 id g 0 Fe.length), (7, .ref nx1 0), (6, sint cq), (13, sint k), (12, sint cs.length), (11, .pv (.sl 1 (ints cs))), (4, .mp nx), (0, .yld y), (1, .ref (p + 1) 0), (2, .ref p 0)]) (by simp [lk]) (by simp [SubL, *]) (by simp only [lk]; rw [if_neg (by omega), lk_app, hHm0 _ (by omega), hd2 _ (by omega)]; rfl)) ?_
            refine PWl.ent (st' := { n := 61, nx := nx2 + 1, s := [(45, .pv (.sl 1 (ints [(bq : Int), (cq : Int)]))), (42, .yld y), (41, sbool true), (26, sint j), (25, sint Fe.length), (24, .loc 1 id g 0 Fe.length), (7, .ref nx1 0), (6, sint cq), (13, sint k), (12, sint cs.length), (11, .pv (.sl 1 (ints cs))), (4, .mp nx), (0, .yld y), (1, .ref (p + 1) 0), (2, .ref p 0)], h := ((nx1, .box (F[cq].c.map .pv)) :: Hm) ++ H2, d := [] }) (ent_keep rfl rfl rfl (fun t sv h => SubL.get (by simp [SubL, *]) h) (fun i b h => h)) ?_
            refine pwl_yieldk (c := ?_) (x := ?_) (y := y) (svs := [.pv (.sl 1 (ints [(bq : Int), (cq : Int)]))]) (own := (nx1, .box (F[cq].c.map .pv)) :: Hm) (Hs := H2) (Qr := _) ?_ ?_ ?_ ?_ ?_ ?_ rfl (hdis) (hstep _ _ _ hspl _ _ (hmono _ _ _ _ hC (by show nx2 ≤ nx2 + 1; omega))) ?_; rotate_left 2; (· first | rfl | (simp [*]; done)); (· rfl); (· rfl); (· first | rfl | (simp; done)); (· first | rfl | (simp; done)); (· rfl); rintro sv nx' H' hq hn hd; simp only at hn; rcases hq with ⟨rfl, hc⟩ | ⟨rfl, hc⟩
            · refine pwl_runk fun K' S hK' hS => ?_; simp [*]
              repeat' (first | with_reducible refine pws_skip ?_ | ((with_reducible refine pws_regk fun K' S hK' hS => ?_); simp [argSlots, lk_app, *]) | ((with_reducible refine Goes.go hK' ?_); clear hK' hS; clear K' S) | ((with_reducible refine pws_false ?_ ?_); (· simp; done)) | with_reducible refine blk_normal ?_ | with_reducible refine thenQ_normal ?_ | with_reducible refine pws_nil ?_)
              refine hK2 _ ⟨(j + 1, nx', H'), by simp; omega⟩ (ent_keep rfl rfl rfl (fun t sv h => SubL.get (by simp [SubL, *]) h) (fun i b h => h)) ⟨hd, by simp only [htk2]; exact hc, by simp; omega⟩ (by simp; omega)
            · refine pwl_runk fun K' S hK' hS => ?_; simp [*]
              repeat' (first | ((with_reducible refine Goes.go hK' ?_); clear hK' hS; clear K' S) | ((with_reducible refine pws_true ?_ ?_); (· simp; done)) | with_reducible refine pws_ret ?_ | with_reducible refine blk_ret ?_ | with_reducible refine thenQ_ret ?_)
              refine finP_end (vs := []) (.inr rfl) (ent_keep (st' := { n := 61, nx := nx', s := [], h := H', d := [] }) rfl rfl rfl (fun t sv h => by cases h) (disj_sub hd)) rfl rfl ?_
              exact .inr ⟨_, hc⟩
      · obtain rfl : j = Fe.length := by omega
        rw [List.take_length] at hC
        obtain ⟨m, q, w, e1, hq, -, -, -, -⟩ := mfind_get hmf
        obtain rfl : j0 = m := by omega
        clear e1
        have hbb : (Fe.length + 1) * 8 ≤ 140737488355328 := by omega
        have hm2 : ∀ B, lk nx (hset id B Hm) = some (.map clock es) := fun B => by rw [lk_hset_other hni']; exact hm
        repeat' (first | with_reducible refine pws_seq ?_ | ((with_reducible refine pws_regk fun K' S hK' hS => ?_); simp [argSlots, lk_app, hset_app', *]) | ((with_reducible refine Goes.go hK' ?_); clear hK' hS; clear K' S) | ((with_reducible refine pws_false ?_ ?_); (· simp; done)) | with_reducible refine blk_normal ?_ | with_reducible refine blk_same ?_ | with_reducible refine thenQ_exit ?_ | with_reducible refine thenQ_normal ?_ | with_reducible refine pws_nil ?_ | with_reducible refine pws_exit ?_ | ((with_reducible refine pws_drawk [8, 9, 10] [0, 1, 2, 3, 4, 5, 6, 7, 8, 9, 10] [] ?_ fun K' S hK' hS => ?_); (· decide +kernel); simp [argSlots, lk_app, hset_app', *]) | ((with_reducible refine GoesD.go hS ?_); clear hK' hS; clear K' S) | ((with_reducible refine pwd_step2 (eff := [8, 9, 10]) (i := 8) (c := [7, 6, 5, 4, 3, 2, 1, 0]) (c' := [6, 5, 4, 3, 2, 1, 0]) (o := ?_) (st' := ?_) ?_ ?_ ?_ ?_ ?_ ?_ ?_); rotate_left 2; (· rfl); (· rfl); (· (simp [argSlots, lk_app, hset_app', *]; done)); (· (simp [argSlots, lk_app, hset_app', *]; done)); (· decide +kernel); (· (simp [argSlots, lk_app, hset_app', *]; with_reducible rfl)); refine pwd_runk fun K' S hK' hS => ?_; simp [argSlots, lk_app, hset_app', *]) | ((with_reducible refine pwd_step2 (eff := [8, 9, 10]) (i := 9) (c := [6, 5, 4, 3, 2, 1, 0]) (c' := [2, 1, 0]) (o := ?_) (st' := ?_) ?_ ?_ ?_ ?_ ?_ ?_ ?_); rotate_left 2; (· rfl); (· rfl); (· (simp [argSlots, lk_app, hset_app', *]; done)); (· (simp [argSlots, lk_app, hset_app', *]; done)); (· decide +kernel); (· (simp [argSlots, lk_app, hset_app', *]; with_reducible rfl)); refine pwd_runk fun K' S hK' hS => ?_; simp [argSlots, lk_app, hset_app', *]) | ((with_reducible refine pwd_step2 (eff := [8, 9, 10]) (i := 10) (c := [2, 1, 0]) (c' := []) (o := ?_) (st' := ?_) ?_ ?_ ?_ ?_ ?_ ?_ ?_); rotate_left 2; (· rfl); (· rfl); (· (simp [argSlots, lk_app, hset_app', *]; done)); (· (simp [argSlots, lk_app, hset_app', *]; done)); (· decide +kernel); (· (simp [argSlots, lk_app, hset_app', *]; with_reducible rfl)); refine pwd_runk fun K' S hK' hS => ?_; simp [argSlots, lk_app, hset_app', *]))
        have hA : disj Hm H2 := fun i b hl => hdis i b (lk_skip (hHm0 _ (Nat.le_refl _)) hl)
        have hn1 : lk nx1 H2 = none := hdis nx1 _ (if_pos rfl)
        have hz : ∀ B B' i, nx1 ≤ i → lk i H2 = none → lk i (hset nx B (hset id B' Hm) ++ H2) = none := fun B B' i hi h => by
          rw [lk_app, lk_hset_other (by omega), lk_hset_other (by omega), hHm0 i hi, h]; rfl
        refine hK _ ⟨(k + 1, nx2 + 1, clock, es.set j0 (q.1, .pv (pint F[cq].entity), .loc 1 id (g + 1) 0 (Fe.length + 1)), hset nx (.map clock (es.set j0 (q.1, .pv (pint F[cq].entity), .loc 1 id (g + 1) 0 (Fe.length + 1)))) (hset id (.arr 3 1 (g + 1) false (ints Fe ++ [[pint cq]])) Hm), H2), by simp; omega⟩
          (ent_keep rfl rfl rfl (fun t sv h => SubL.get (by simp [SubL, *]) h) (fun i b h => lk_skip (by simp only [lk]; rw [if_neg (by omega)]; exact hz _ _ _ (by omega) (hd2 _ (by omega))) (lk_skip (hz _ _ _ (by omega) hn1) h))) ⟨?_, ?_, ?_, ?_, ?_, ?_, by simp; omega⟩ (by simp; omega)
        · exact lk_hset_same (hm2 _)
        · have : ¬ id = p + 1 := fun e => by subst e; rw [hid] at hb1; cases hb1
          simp only; rw [lk_hset_other (by omega), lk_hset_other (fun e => this e.symm)]; exact hb1
        · have : ¬ id = p := fun e => by subst e; rw [hid] at hb0; cases hb0
          simp only; rw [lk_hset_other (by omega), lk_hset_other (fun e => this e.symm)]; exact hb0
        · simp only [List.take_succ_eq_append_getElem h1, hcq]
          refine hgo cq _ q (by rw [fc_nat, nf_get hcF]) hs hmf hid hq (fun i g xs hi hl => ?_) ?_
          · rw [lk_hset_other (fun e => by subst e; rw [hl] at hm; cases hm), lk_hset_other hi]
            exact hl
          · rw [lk_hset_other hni]
            exact lk_hset_same hid
        · exact disj_hset (disj_hset hA)
        · have he2 : excV F (cs.take k) ++ (Fe.filter (excOk F cq)).map (fun b => SV.pv (.sl 1 (ints [b, (cq : Int)]))) = excV F (cs.take (k + 1)) := by
            unfold excV
            rw [hex, hcq]
            simp [List.map_append, Function.comp_def]
          simp only [← he2]
          exact hmono _ _ _ _ hC (by omega)
  · obtain rfl : k = cs.length := by omega
    rw [List.take_length] at hC
    clear hK
    repeat' (first | with_reducible refine pws_seq ?_ | ((with_reducible refine pws_regk fun K' S hK' hS => ?_); simp [argSlots, *]) | ((with_reducible refine Goes.go hK' ?_); clear hK' hS; clear K' S) | ((with_reducible refine pws_false ?_ ?_); (· simp; done)) | with_reducible refine blk_same ?_ | with_reducible refine thenQ_exit ?_ | with_reducible refine pws_nil ?_ | with_reducible refine pws_exit ?_)
    refine finP_end (vs := []) (.inl rfl) (ent_keep (st' := { n := 61, nx := nx1, s := [], h := H1, d := [] }) rfl rfl rfl (fun t sv h => by cases h) (disj_sub hdis)) rfl rfl ?_
    exact .inl hC
theorem excs_ok (F : List Fc) (cs : List Int) (nx : Nat) (H : List (Nat × ABlk)) : PC Tryz.prog 144 [.pv (.sl 6 (pfacts F)), .pv (.sl 1 (ints cs))] nx H (fun sv nx' H' => sv = .clos 197 (caE nx) ∧ nx' = nx + 2 ∧ H' = HE F cs nx ++ H) := by
  refine pc_of_pw' (fn := Tryz.f144) Tryz.func144 rfl enters144 Tryz.ntmps144 (by simp [capRefs]) (pw_of_pws ?_)
  repeat' (first | with_reducible refine pws_seq ?_ | ((with_reducible refine pws_regk fun K' S hK' hS => ?_); simp [argSlots, capRefs, *]) | ((with_reducible refine Goes.go hK' ?_); clear hK' hS; clear K' S) | with_reducible refine pws_ret ?_)
  all_goals (refine finP_ret (vs := ?_) [] (by first | exact .inr rfl | exact .inl rfl) rfl ?_ ?_; rotate_left; (· simp [Tryz.results144, resL, resOf, *]; rfl); (· first | (simp [wrapRes, cv, *]; done) | (simp [wrapRes, cv, *]; grind) | (simp [wrapRes, cv, *]; omega)))
end
end Go.Proofs.T1
namespace Go.Vc
open Go.RowKit
variable {P : Program} {n0 : Nat} {r : Option Nat}
def doneOf : ABlk → ABlk
  | .lrec n s _ _ ps a b d => .lrec n s .done (some .ret) ps a b d
  | b => b
/-- A client that hands on to another one. -/
def ClC (C : List SV → Nat → List (Nat × ABlk) → Prop) (L M : Nat) (B : List (Nat × ABlk)) (pre : List SV) (blk : ABlk) (ys : List SV) (nx : Nat) (H' : List (Nat × ABlk)) : Prop :=
  ∃ H1, H' = (L, blk) :: (M, .dfr true) :: (B ++ H1) ∧ C (pre ++ ys) nx H1 ∧ disj ((L, blk) :: (M, .dfr true) :: B) H1 ∧ L < nx
def ClD (D : List SV → Nat → List (Nat × ABlk) → Prop) (L M : Nat) (B : List (Nat × ABlk)) (pre : List SV) (blk : ABlk) (ys : List SV) (nx : Nat) (H' : List (Nat × ABlk)) : Prop :=
  ∃ H1, H' = (L, doneOf blk) :: (M, .dfr true) :: (B ++ H1) ∧ D (pre ++ ys) nx H1 ∧ disj ((L, blk) :: (M, .dfr true) :: B) H1 ∧ L < nx
theorem disj_same {l l' H : List (Nat × ABlk)} (h : disj l H) (hs : ∀ i, (lk i l').isSome = true → (lk i l).isSome = true) : disj l' H := fun i b hl => by
  have := hs i (by rw [hl]; rfl)
  obtain ⟨c, hc⟩ := Option.isSome_iff_exists.1 this
  exact h i c hc
theorem lk_map_dfr {b : Bool} {i : Nat} : ∀ {l : List Nat}, lk i (l.map fun j => (j, ABlk.dfr b)) = if i ∈ l then some (.dfr b) else none
  | [] => rfl
  | j :: l => by
    simp only [List.map_cons, lk, lk_map_dfr (l := l), List.mem_cons]
    by_cases e : j = i
    · simp [e]
    · have e' : ¬ i = j := fun h => e h.symm
      simp [e, e']
theorem shut_marks : ∀ {dl : List Nat} {h : List (Nat × ABlk)}, dl.Nodup → (∀ i ∈ dl, lk i h = some (.dfr true)) → ∃ h', shut dl h = some h' ∧ ∀ i, i ∉ dl → lk i h' = lk i h
  | [], h, _, _ => ⟨h, rfl, fun _ _ => rfl⟩
  | j :: dl, h, hn, hl => by
    obtain ⟨h1, h2⟩ := List.nodup_cons.1 hn
    obtain ⟨h', e, g⟩ := shut_marks (dl := dl) (h := hset j (.dfr false) h) h2 (fun i hi => by
      rw [lk_hset_other (fun e => by subst e; exact h1 hi)]
      exact hl i (by simp [hi]))
    refine ⟨h', by simp only [shut, hl j (by simp)]; exact e, fun i hi => ?_⟩
    rw [g i (fun h => hi (by simp [h])), lk_hset_other (fun e => hi (by simp [e]))]
theorem disj_head {i : Nat} {b b' : ABlk} {l H : List (Nat × ABlk)} (h : disj ((i, b) :: l) H) : disj ((i, b') :: l) H := disj_same h fun j hj => by
  simp only [lk] at hj ⊢
  split at hj
  · rename_i e; rw [if_pos e]; rfl
  · rename_i e; rw [if_neg e]; exact hj
theorem fin_it {fn : Func} {nx : Nat} {C D : List SV → Nat → List (Nat × ABlk) → Prop} {XS : List SV} {e : Exit} {st : St} {H1 : List (Nat × ABlk)} (he : e = .normal ∨ e = .ret) (hr : fn.results.toList = []) (hnd : st.d.Nodup) (hm : ∀ i ∈ st.d, lk i st.h = some (.dfr true))
    (hq : C XS st.nx H1 ∨ ∃ ys, D ys st.nx H1) (hsub : ∀ i b, lk i H1 = some b → i ∉ st.d ∧ lk i st.h = some b) : FinP P fn nx (fun _ nx' H2 => ∃ H1, (C XS nx' H1 ∨ ∃ ys, D ys nx' H1) ∧ ∀ i b, lk i H1 = some b → lk i H2 = some b) e st := by
  obtain ⟨h', e1, e2⟩ := shut_marks hnd hm
  refine finP_end (vs := []) he (Ent.refl _) e1 (by rw [hr]; rfl) ⟨H1, hq, fun i b hl => ?_⟩
  obtain ⟨g1, g2⟩ := hsub i b hl
  rw [e2 i g1]
  exact g2
theorem lk_move {L M i : Nat} {x b c : ABlk} {own T : List (Nat × ABlk)} (h1 : lk L own = none) (h2 : L ≠ M) (h3 : lk L T = none) (h4 : lk M own = none) (h : lk i (own ++ ((M, b) :: T)) = some c) : lk i ((L, x) :: (M, b) :: (own ++ T)) = some c := by
  rcases lk_append_cases h with h | ⟨hn, h⟩
  · simp only [lk]
    rw [if_neg (fun e => by subst e; rw [h1] at h; cases h), if_neg (fun e => by subst e; rw [h4] at h; cases h)]
    exact lk_append_left h
  · simp only [lk] at h ⊢
    split at h
    · rename_i e
      rw [if_neg (fun e2 => h2 (e2.trans e.symm)), if_pos e]
      exact h
    · rename_i e
      rw [if_neg (fun e2 => by subst e2; rw [h3] at h; cases h), if_neg e, lk_append_right hn]
      exact h
end Go.Vc
namespace Go.Proofs.T1
open Go.Vc
open Tryz
set_option linter.unusedSimpArgs false
set_option linter.unusedVariables false
set_option maxHeartbeats 4000000
set_option maxRecDepth 20000
attribute [local simp] runD_nil runD_cons runDO runDG runDV stabs stabO stabG runK_nil runK_cons runG_t runG_f runS_some runS_none gate dstOf step2 step1 vq vop vlook mput mfind isKeyB keq fin1 hbox halloc hstore hbuild hbuildSlice happend hmake vslice bound vbuild partsOf elemsOf inOrder topvs toPV svCells splice srcOf isNil St.ev St.evs St.fits St.put St.new St.upd St.frzs St.frz lk hset litOf vbuiltin vlen vbin vindex vfield vload rdc pvs capsOf Value.oneCell'
attribute [local simp] tsz3 tagg3 tbytes3 tint3 tzero3 tzero1_3 tsz4 tagg4 tbytes4 tbool4 tzero4 tzero1_4 tsz5 tagg5 tbytes5 tint5 tzero5 tzero1_5 tsz9 tagg9 tbytes9 tstr9 tzero9 tzero1_9 tsz22 tagg22 tel22 tbytes22 tzero22 tzero1_22 tsz23 tagg23 tel23 tbytes23 tzero23 tzero1_23 tsz24 tagg24 tel24 tbytes24 tzero24 tzero1_24 tsz25 tagg25 tbytes25 tzero25 tzero1_25 tsz29 tagg29 tel29 tbytes29 tzero29 tzero1_29 tsz30 tagg30 tel30 tbytes30 tzero30 tzero1_30 tsz32 tagg32 tbytes32 tzero32 foff32_0 foff32_1 foff32_2 foff32_3 foff32_4 foff32_5 foff32_6 foff32_7 foff32_8 foff32_9 tsz33 tagg33 tel33 tbytes33 tzero33 tzero1_33 tsz34 tagg34 tbytes34 tint34 tzero34 tzero1_34 tsz38 tagg38 tbytes38 tzero38 foff38_0 foff38_1 foff38_2 tsz47 tagg47 tel47 tbytes47 tzero47 tzero1_47 tsz52 tagg52 tel52 tbytes52 tzero52 tzero1_52 tsz54 tagg54 tbytes54 tzero54 foff54_0 foff54_1 foff54_2 foff54_3 foff54_4 foff54_5 tsz79 tagg79 tbytes79 tzero79 foff79_0 foff79_1 foff79_2 tsz117 tagg117 tbytes117 tzero117 foff117_0 foff117_1 foff117_2 tsz119 tagg119 tbytes119 tzero119 foff119_0 foff119_1 tsz121 tagg121 tbytes121 tzero121 foff121_0 foff121_1 foff121_2 foff121_3 tsz129 tagg129 tbytes129 tzero129 tzero1_129 tsz130 tagg130 tbytes130 tzero130 tzero1_130 tsz132 tagg132 tbytes132 tzero132 tzero1_132 tsz206 tagg206 tbytes206 tzero206 tzero1_206 mtype206 tsz208 tagg208 tbytes208 tsz217 tagg217 tel217 tbytes217 tzero217 tzero1_217 tsz220 tagg220 tbytes220 tzero220 foff220_0 foff220_1 tsz235 tagg235 tel235 tbytes235 tzero235 tzero1_235 tsz256 tagg256 tbytes256 tzero256 tzero1_256 mtype256 tsz351 tagg351 tbytes351 tzero351 tsz2 tagg2 tbytes2 tint2 tzero2 tzero1_2 tsz291 tagg291 tbytes291 tint291 tzero291 tzero1_291 sized32 places32_0 places32_1 places32_2 places32_3 places32_4 places32_5 places32_6 places32_7 places32_8 places32_9 sized38 places38_0 places38_1 places38_2 sized54 places54_0 places54_1 places54_2 places54_3 places54_4 places54_5 sized79 places79_0 places79_1 places79_2 sized117 places117_0 places117_1 places117_2 sized119 places119_0 places119_1 sized121 places121_0 places121_1 places121_2 places121_3 sized220 places220_0 places220_1
section
attribute [local simp] V.c V.z Sd.c Tst.c Fx.c Rl.c Fc.c Gr.c wrap1f take_map_len take_map_len1 wrap1 wrap2 wrap3
theorem enters143 : Enters Tryz.prog 143 := enters_mk Tryz.func143 (by kernel_rfl) (by kernel_rfl)
theorem enters82 : Enters Tryz.prog 82 := enters_mk Tryz.func82 (by kernel_rfl) (by kernel_rfl)
theorem enters37 : Enters Tryz.prog 37 := enters_mk Tryz.func37 (by kernel_rfl) (by kernel_rfl)
abbrev caW (p : Nat) : List (Nat × Nat) := [(p + 1, 0), (p + 2, 0), (p, 0)]
abbrev HW (R : List Rl) (F : List Fc) (cs : List Int) (p : Nat) : List (Nat × ABlk) := [(p + 2, .box [.pv (.sl 1 (ints cs))]), (p + 1, .box [.pv (.sl 6 (pfacts F))]), (p, .box [.pv (.sl 10 (prules R))])]
abbrev witV (R : List Rl) (F : List Fc) (cs : List Int) : List SV := (wits R F cs).map fun s => .pv (.sl 1 (ints s))
theorem wits_ok (R : List Rl) (F : List Fc) (cs : List Int) (nx : Nat) (H : List (Nat × ABlk)) : PC Tryz.prog 82 [.pv (.sl 10 (prules R)), .pv (.sl 6 (pfacts F)), .pv (.sl 1 (ints cs))] nx H (fun sv nx' H' => sv = .clos 143 (caW nx) ∧ nx' = nx + 3 ∧ H' = HW R F cs nx ++ H) := by
  refine pc_of_pw' (fn := Tryz.f82) Tryz.func82 rfl enters82 Tryz.ntmps82 (by simp [capRefs]) (pw_of_pws ?_)
  repeat' (first | with_reducible refine pws_seq ?_ | ((with_reducible refine pws_regk fun K' S hK' hS => ?_); simp [argSlots, capRefs, *]) | ((with_reducible refine Goes.go hK' ?_); clear hK' hS; clear K' S) | with_reducible refine pws_ret ?_)
  all_goals (refine finP_ret (vs := ?_) [] (by first | exact .inr rfl | exact .inl rfl) rfl ?_ ?_; rotate_left; (· simp [Tryz.results82, resL, resOf, *]; rfl); (· first | (simp [wrapRes, cv, *]; done) | (simp [wrapRes, cv, *]; grind) | (simp [wrapRes, cv, *]; omega)))
abbrev witP (R : List Rl) (F : List Fc) (cs : List Int) (k : Nat) : List SV := excV F cs ++ ((denials R).take k).flatMap fun d => asgV d F cs d.tables.length []
theorem witP_succ {R : List Rl} {F : List Fc} {cs : List Int} {k : Nat} (h : k < (denials R).length) : witP R F cs (k + 1) = witP R F cs k ++ asgV (denials R)[k] F cs (denials R)[k].tables.length [] := by
  unfold witP
  rw [List.take_succ_eq_append_getElem h, List.flatMap_append]
  simp
theorem witP_all {R : List Rl} {F : List Fc} {cs : List Int} : witP R F cs (denials R).length = witV R F cs := by
  unfold witP witV wits
  rw [List.take_length, List.map_append, List.map_flatMap]
theorem witP_split {R : List Rl} {F : List Fc} {cs : List Int} {k : Nat} : ∃ Z, witV R F cs = witP R F cs k ++ Z := by
  refine ⟨((denials R).drop k).flatMap fun d => asgV d F cs d.tables.length [], ?_⟩
  rw [← witP_all]
  unfold witP
  rw [List.take_length, List.append_assoc, ← List.flatMap_append, List.take_append_drop]
theorem denials_sane {R : List Rl} (hR : OkR R) {d : Rl} (hd : d ∈ denials R) : d.tests.length ≤ 100 ∧ d.tables.length ≤ 12 := by
  unfold denials at hd
  obtain ⟨r, hr, hd⟩ := List.mem_flatMap.1 hd
  exact lower_sane (hR r hr) (List.mem_filter.1 hd).1
theorem wit_it {R : List Rl} {F : List Fc} {cs : List Int} (p : Nat) (hR : OkR R) (hl : R.length ≤ 1000) (hcs : cs.length ≤ 1000000) (hcr : Rng F cs) : ItC Tryz.prog 143 (caW p) (HW R F cs p) (fun _ => True) (witV R F cs) := by
  intro y nx H C D _ hstep hmono hdis h0
  refine PC.dom enters143 fun hdom => ?_
  have hp1 : p + 2 < nx := hdom _ (.box [.pv (.sl 1 (ints cs))]) (lk_append_left (by simp [HW, lk]))
  have hHn : ∀ i, nx ≤ i → lk i H = none := fun i hi => by
    cases hx : lk i H with
    | none => rfl
    | some b => have := hdom i b (by rw [lk_append_right]; exact hx; (simp only [HW, lk]; rw [if_neg (by omega), if_neg (by omega), if_neg (by omega)])); omega
  clear hdom
  have ne_nx_p : ¬ nx = p := by omega
  have ne_nx_p' : ¬ p = nx := by omega
  have ne_nx_p___1 : ¬ nx = p + 1 := by omega
  have ne_nx_p___1' : ¬ p + 1 = nx := by omega
  have ne_nx_p___2 : ¬ nx = p + 2 := by omega
  have ne_nx_p___2' : ¬ p + 2 = nx := by omega
  have ne_nx___1_p : ¬ nx + 1 = p := by omega
  have ne_nx___1_p' : ¬ p = nx + 1 := by omega
  have ne_nx___1_p___1 : ¬ nx + 1 = p + 1 := by omega
  have ne_nx___1_p___1' : ¬ p + 1 = nx + 1 := by omega
  have ne_nx___1_p___2 : ¬ nx + 1 = p + 2 := by omega
  have ne_nx___1_p___2' : ¬ p + 2 = nx + 1 := by omega
  have ne_nx___1_nx : ¬ nx + 1 = nx := by omega
  have ne_nx___1_nx' : ¬ nx = nx + 1 := by omega
  have ne_nx___2_p : ¬ nx + 2 = p := by omega
  have ne_nx___2_p' : ¬ p = nx + 2 := by omega
  have ne_nx___2_p___1 : ¬ nx + 2 = p + 1 := by omega
  have ne_nx___2_p___1' : ¬ p + 1 = nx + 2 := by omega
  have ne_nx___2_p___2 : ¬ nx + 2 = p + 2 := by omega
  have ne_nx___2_p___2' : ¬ p + 2 = nx + 2 := by omega
  have ne_nx___2_nx : ¬ nx + 2 = nx := by omega
  have ne_nx___2_nx' : ¬ nx = nx + 2 := by omega
  have ne_nx___3_p : ¬ nx + 3 = p := by omega
  have ne_nx___3_p' : ¬ p = nx + 3 := by omega
  have ne_nx___3_p___1 : ¬ nx + 3 = p + 1 := by omega
  have ne_nx___3_p___1' : ¬ p + 1 = nx + 3 := by omega
  have ne_nx___3_p___2 : ¬ nx + 3 = p + 2 := by omega
  have ne_nx___3_p___2' : ¬ p + 2 = nx + 3 := by omega
  have ne_nx___3_nx : ¬ nx + 3 = nx := by omega
  have ne_nx___3_nx' : ¬ nx = nx + 3 := by omega
  have ne_nx___4_p : ¬ nx + 4 = p := by omega
  have ne_nx___4_p' : ¬ p = nx + 4 := by omega
  have ne_nx___4_p___1 : ¬ nx + 4 = p + 1 := by omega
  have ne_nx___4_p___1' : ¬ p + 1 = nx + 4 := by omega
  have ne_nx___4_p___2 : ¬ nx + 4 = p + 2 := by omega
  have ne_nx___4_p___2' : ¬ p + 2 = nx + 4 := by omega
  have ne_nx___4_nx : ¬ nx + 4 = nx := by omega
  have ne_nx___4_nx' : ¬ nx = nx + 4 := by omega
  refine PC.drop (Q := fun sv nx' H2 => ∃ H1, (C (witV R F cs) nx' H1 ∨ ∃ ys, D ys nx' H1) ∧ ∀ i b, lk i H1 = some b → lk i H2 = some b) ?_ (fun _ _ _ ⟨H1, a, b⟩ => ⟨H1, a, b⟩)
  refine pc_of_pw' (fn := Tryz.f143) Tryz.func143 rfl enters143 Tryz.ntmps143 (by simp [capRefs]) (pw_of_pws ?_)
  simp only [capRefs, List.map_cons, List.map_nil, argSlots]
  repeat' (first | with_reducible refine pws_seq ?_ | ((with_reducible refine pws_regk fun K' S hK' hS => ?_); simp [argSlots, *]) | ((with_reducible refine Goes.go hK' ?_); clear hK' hS; clear K' S) | ((with_reducible refine GoesS.go hS ?_); clear hK' hS; clear K' S))
  have hex := excs_ok F cs (nx + 1) ((nx, .box [.yld y]) :: (HW R F cs p ++ H))
  refine pwl_callpk (c := ?_) (x := ?_) (f := 144) (caps := []) (svs := [.pv (.sl 6 (pfacts F)), .pv (.sl 1 (ints cs))]) (own := []) (Hs := (nx, .box [.yld y]) :: (HW R F cs p ++ H)) (Qr := _) ?_ ?_ ?_ ?_ ?_ ?_ (fun i b h => h) (fun i b h => by simp only [List.cons_append, List.nil_append, lk] at h ⊢; (repeat' split at h) <;> (try subst_vars) <;> first | (subst_vars; simp [*]; done) | (simp_all; done) | (simp_all; omega)) (hex) ?_; rotate_left 2; (· first | rfl | (simp [*]; done)); (· rfl); (· rfl); (· first | rfl | (simp; done)); (· first | rfl | (simp; done)); (· rfl); rintro sv nx' H' hq hn hd
  obtain ⟨rfl, rfl, rfl⟩ := hq
  clear hex hd hn
  refine pwl_runk fun K' S hK' hS => ?_; simp [*]
  repeat' (first | with_reducible refine pws_block ?_ | ((with_reducible refine Goes.go hK' ?_); clear hK' hS; clear K' S))
  refine pws_ent (st' := { n := 34, nx := nx + 3, s := [(11, .clos 197 (caE (nx + 1))), (4, .ref nx 0), (0, .yld y), (1, .ref (p + 1) 0), (2, .ref (p + 2) 0), (3, .ref p 0)], h := HE F cs (nx + 1) ++ ((nx, .box [.yld y]) :: (HW R F cs p ++ H)), d := [] }) (ent_keep rfl rfl rfl (fun t sv h => SubL.get (by simp [SubL, *]) h) (fun i b h => h)) ?_
  refine pws_it_outer (own := HE F cs (nx + 1)) (Hc := (nx, .box [.yld y]) :: (HW R F cs p ++ H)) (ClC C (nx + 3 + 1) (nx + 3) ((nx, .box [.yld y]) :: HW R F cs p) []) (ClD D (nx + 3 + 1) (nx + 3) ((nx, .box [.yld y]) :: HW R F cs p) []) rfl (exc_it (nx + 1) hcs hcr) (fun i b h => h) ?_ (fun _ _ _ _ => trivial) ?_ ?_ ?_ ?_ ?_
  · intro i b hl
    simp only [HE, lk] at hl
    simp only [HW, lk, List.cons_append, List.nil_append]
    (repeat' split at hl) <;> first | (subst_vars; rw [if_neg (by omega), if_neg (by omega), if_neg (by omega), if_neg (by omega)]; exact hHn _ (by omega)) | cases hl
  · rintro ys x zs hsp nx2 _ ⟨H1, rfl, hC, hdd, hL⟩
    obtain ⟨Z, hZ⟩ := witP_split (R := R) (F := F) (cs := cs) (k := 0)
    have hst := hstep ys x (zs ++ Z) (by rw [hZ]; simp [witP, hsp]) nx2 H1 (by simpa using hC)
    refine yc_of_pw (L := nx + 3 + 1) (if_pos rfl) rfl (by simp) (pw_of_pws ?_)
    simp [putAll]
    repeat' (first | ((with_reducible refine pws_regk fun K' S hK' hS => ?_); simp [argSlots, *]) | ((with_reducible refine Goes.go hK' ?_); clear hK' hS; clear K' S) | with_reducible refine pws_nil ?_)
    refine ⟨rfl, by simp [lk], ?_⟩
    refine pw_of_pws ?_
    simp [St.upd, hset, lk]
    repeat' (first | with_reducible refine pws_seq ?_ | with_reducible refine pws_block ?_ | ((with_reducible refine pws_regk fun K' S hK' hS => ?_); simp [argSlots, *]) | ((with_reducible refine GoesS.go hS ?_); clear hK' hS; clear K' S))
    refine pwl_yieldk (c := ?_) (x := ?_) (y := y) (svs := [x]) (own := (nx + 3 + 1, _) :: (nx + 3, .dfr true) :: (nx, .box [.yld y]) :: HW R F cs p) (Hs := H1) (Qr := _) ?_ ?_ ?_ ?_ ?_ ?_ rfl (disj_head hdd) (hst) ?_; rotate_left 2; (· first | rfl | (simp [*]; done)); (· rfl); (· rfl); (· first | rfl | (simp; done)); (· first | rfl | (simp; done)); (· rfl); rintro sv nx' H' hq hn hd; simp only at hn; rcases hq with ⟨rfl, hc⟩ | ⟨rfl, hc⟩
    · refine pwl_runk fun K' S hK' hS => ?_; simp [*]
      repeat' (first | with_reducible refine pws_skip ?_ | ((with_reducible refine Goes.go hK' ?_); clear hK' hS; clear K' S) | ((with_reducible refine pws_false ?_ ?_); (· simp; done)) | with_reducible refine blk_normal ?_ | with_reducible refine pws_nil ?_)
      refine ⟨by simp [lk], .inl ⟨rfl, H', by simp [hset], by simpa using hc, disj_head hd, by simp; omega⟩⟩
    · refine pwl_runk fun K' S hK' hS => ?_; simp [*]
      repeat' (first | ((with_reducible refine Goes.go hK' ?_); clear hK' hS; clear K' S) | ((with_reducible refine pws_true ?_ ?_); (· simp; done)) | with_reducible refine pws_ret ?_ | with_reducible refine blk_ret ?_)
      refine ⟨by simp [lk], .inr ⟨rfl, H', by simp [hset, doneOf], by simpa using hc, disj_head hd, by simp; omega⟩⟩
  · rintro ys nx2 nx3 _ ⟨H1, rfl, hC, hdd, hL⟩ hle
    exact ⟨H1, rfl, hmono _ _ _ _ hC hle, hdd, by omega⟩
  · refine ⟨H, rfl, hmono _ _ _ _ h0 (by simp; omega), disj_cons (hHn _ (by omega)) (disj_cons (hHn _ (by omega)) (disj_cons (hHn _ (by omega)) hdis)), by simp⟩
  · rintro sv nx2 _ ⟨H1, rfl, hC, hdd, hL⟩
    refine ⟨.ready, none, if_pos rfl, by decide, ?_⟩
    simp [hset]
    refine thenQ_normal ?_
    have hwp : C (witP R F cs 0) nx2 H1 := by simpa [witP] using hC
    clear hC h0 hdis hHn
    have hL1 : lk (nx + 3 + 1) H1 = none := hdd _ _ (if_pos rfl)
    have hdd2 : disj ((nx, .box [.yld y]) :: (HW R F cs p ++ ([nx + 3].map fun j => (j, ABlk.dfr true)))) H1 := fun i b hi => by
      by_cases e : i = nx + 3
      · subst e; exact hdd _ (.dfr true) (by simp only [lk]; rw [if_neg (by omega), if_pos trivial])
      · have e2 : ¬ nx + 3 + 1 = i := fun e2 => by
          subst e2
          simp only [HW, lk, List.cons_append, List.nil_append, List.map_cons, List.map_nil] at hi
          rw [if_neg (by omega), if_neg (by omega), if_neg (by omega), if_neg (by omega), if_neg (by omega)] at hi
          cases hi
        refine hdd i b ?_
        simp only [HW, lk, List.cons_append, List.nil_append, List.map_cons, List.map_nil] at hi ⊢
        rw [if_neg e2, if_neg (fun x => e x.symm)]
        rw [if_neg (c := nx + 3 = i) (fun x => e x.symm)] at hi
        exact hi
    clear hdd
    refine pws_ent (st' := { n := 34, nx := nx2, s := [(4, .ref nx 0), (1, .ref (p + 1) 0), (2, .ref (p + 2) 0), (3, .ref p 0)], h := (nx, .box [.yld y]) :: (HW R F cs p ++ (([nx + 3].map fun j => (j, ABlk.dfr true)) ++ H1)), d := [nx + 3] }) (ent_keep rfl rfl rfl (fun t sv h => SubL.get (by simp [SubL, *]) h) (fun i b h => lk_move (own := (nx, .box [.yld y]) :: HW R F cs p) (by simp only [HW, lk]; rw [if_neg (by omega), if_neg (by omega), if_neg (by omega), if_neg (by omega)]) (by omega) hL1 (by simp only [HW, lk]; rw [if_neg (by omega), if_neg (by omega), if_neg (by omega), if_neg (by omega)]) h)) ?_
    repeat' (first | with_reducible refine pws_seq ?_ | with_reducible refine pws_block ?_ | ((with_reducible refine pws_regk fun K' S hK' hS => ?_); simp [argSlots, *]) | ((with_reducible refine Goes.go hK' ?_); clear hK' hS; clear K' S) | ((with_reducible refine GoesS.go hS ?_); clear hK' hS; clear K' S) | ((with_reducible refine pwl_callk (c := ?_) (x := ?_) (f := ?_) (svs := ?_) (cs := ?_) (Qr := ?_) false ?_ ?_ ?_ ?_ ?_ ?_ ?_ ?_ ?_); rotate_left 6; (· (simp [argSlots, *]; done)); (· rfl); (· rfl); (· (simp; with_reducible rfl)); (· (simp; with_reducible rfl)); (· first | (simp [bors, bor]; with_reducible rfl) | (simp [bors, bor, *]; with_reducible rfl)); (· rfl); (· ((with_reducible refine lowered_ok R hR hl))); (rintro sv hsv hsc; clear hsc; obtain rfl := hsv; refine ⟨(by first | (intro _; rfl) | (intro h; cases h)), ?_⟩; refine pwl_runk fun K' S hK' hS => ?_; simp [argSlots, *])))
    refine pws_loop (α := { v : Nat × Nat × List Nat × List (Nat × ABlk) // v.1 ≤ (denials R).length }) (fun v => { n := 34, nx := v.1.2.1, s := [(20, sint v.1.1), (19, sint (denials R).length), (18, .pv (.sl 10 (prules (denials R)))), (4, .ref nx 0), (1, .ref (p + 1) 0), (2, .ref (p + 2) 0)], h := (nx, .box [.yld y]) :: (HW R F cs p ++ ((v.1.2.2.1.map fun j => (j, ABlk.dfr true)) ++ v.1.2.2.2)), d := v.1.2.2.1 }) (fun v => (denials R).length - v.1.1)
      (fun v => v.1.2.2.1.Nodup ∧ (∀ i ∈ v.1.2.2.1, nx < i ∧ i < v.1.2.1) ∧ disj ((nx, .box [.yld y]) :: (HW R F cs p ++ (v.1.2.2.1.map fun j => (j, ABlk.dfr true)))) v.1.2.2.2 ∧ C (witP R F cs v.1.1) v.1.2.1 v.1.2.2.2 ∧ nx < v.1.2.1)
      ⟨(0, nx2, [nx + 3], H1), by simp⟩ ⟨by simp, by simp; omega, hdd2, hwp, by simp; omega⟩ (ent_keep rfl rfl rfl (fun t sv h => SubL.get (by simp [SubL, *]) h) (fun i b h => h)) ?_
    clear hwp hdd2 hL1
    rintro ⟨⟨k, nx1, dl, H2⟩, hk⟩ ⟨hnd, hdl, hdd, hC, hn1⟩ K hK
    simp only at hk hnd hdl hdd hC hn1
    refine PWs.dom fun hdom => ?_
    simp only at hdom
    have hout : ∀ i, nx1 ≤ i → lk i ((nx, .box [.yld y]) :: (HW R F cs p ++ ((dl.map fun j => (j, ABlk.dfr true)) ++ H2))) = none := fun i hi => by
      cases hx : lk i ((nx, .box [.yld y]) :: (HW R F cs p ++ ((dl.map fun j => (j, ABlk.dfr true)) ++ H2))) with
      | none => rfl
      | some b => have := hdom i b hx; omega
    have hndl : ∀ i, i ≤ nx → ¬ i ∈ dl := fun i hi h => by have := (hdl i h).1; omega
    clear hdom
    by_cases h1 : k < (denials R).length
    · have hw := wrap64_id (n := (k : Int) + 1) (by have := denials_len R; omega)
      obtain ⟨ht0, ht3⟩ := denials_small (List.getElem_mem h1)
      have hwp := witP_succ (F := F) (cs := cs) h1
      obtain ⟨Z, hZ⟩ := witP_split (R := R) (F := F) (cs := cs) (k := k + 1)
      rw [hwp] at hZ
      have hts := (denials_sane hR (List.getElem_mem h1)).1
      have hnx1 := hout nx1 (Nat.le_refl _)
      have ne_nx1_p : ¬ nx1 = p := by omega
      have ne_nx1_p' : ¬ p = nx1 := by omega
      have ne_nx1_p___1 : ¬ nx1 = p + 1 := by omega
      have ne_nx1_p___1' : ¬ p + 1 = nx1 := by omega
      have ne_nx1_p___2 : ¬ nx1 = p + 2 := by omega
      have ne_nx1_p___2' : ¬ p + 2 = nx1 := by omega
      have ne_nx1_nx : ¬ nx1 = nx := by omega
      have ne_nx1_nx' : ¬ nx = nx1 := by omega
      repeat' (first | with_reducible refine pws_seq ?_ | with_reducible refine pws_skip ?_ | with_reducible refine pws_block ?_ | ((with_reducible refine pws_regk fun K' S hK' hS => ?_); simp [argSlots, lk_app, lk_map_dfr, hndl, *]) | ((with_reducible refine Goes.go hK' ?_); clear hK' hS; clear K' S) | ((with_reducible refine GoesS.go hS ?_); clear hK' hS; clear K' S) | ((with_reducible refine pws_true ?_ ?_); (· simp; done)))
      have hasg := asgs_ok (denials R)[k] F cs (nx1 + 1) ((nx1, .box ((denials R)[k].c.map .pv)) :: ((nx, .box [.yld y]) :: (HW R F cs p ++ ((dl.map fun j => (j, ABlk.dfr true)) ++ H2))))
      refine pwl_callpk (c := ?_) (x := ?_) (f := 146) (caps := []) (svs := [.agg (denials R)[k].c, .pv (.sl 6 (pfacts F)), .pv (.sl 1 (ints cs))]) (own := []) (Hs := (nx1, .box ((denials R)[k].c.map .pv)) :: ((nx, .box [.yld y]) :: (HW R F cs p ++ ((dl.map fun j => (j, ABlk.dfr true)) ++ H2)))) (Qr := _) ?_ ?_ ?_ ?_ ?_ ?_ (fun i b h => h) (fun i b h => by simp only [List.cons_append, List.nil_append, lk] at h ⊢; (repeat' split at h) <;> (try subst_vars) <;> first | (subst_vars; simp [*]; done) | (simp_all; done) | (simp_all; omega)) (hasg) ?_; rotate_left 2; (· first | rfl | (simp [*]; done)); (· rfl); (· rfl); (· first | rfl | (simp; done)); (· first | rfl | (simp; done)); (· rfl); rintro sv nx' H' hq hn hd
      obtain ⟨rfl, rfl, rfl⟩ := hq
      clear hasg hd hn
      refine pwl_runk fun K' S hK' hS => ?_; simp [*]
      repeat' (first | with_reducible refine pws_block ?_ | ((with_reducible refine Goes.go hK' ?_); clear hK' hS; clear K' S))
      refine pws_ent (st' := { n := 34, nx := nx1 + 4, s := [(27, .clos 198 (caA (nx1 + 1))), (20, sint k), (19, sint (denials R).length), (18, .pv (.sl 10 (prules (denials R)))), (4, .ref nx 0), (1, .ref (p + 1) 0), (2, .ref (p + 2) 0)], h := HAs (denials R)[k] F cs (nx1 + 1) ++ ((nx, .box [.yld y]) :: (HW R F cs p ++ ((dl.map fun j => (j, ABlk.dfr true)) ++ H2))), d := dl }) (ent_keep rfl rfl rfl (fun t sv h => SubL.get (by simp [SubL, *]) h) (fun i b h => ?_)) ?_
      · show lk i (HAs (denials R)[k] F cs (nx1 + 1) ++ ((nx1, .box ((denials R)[k].c.map .pv)) :: ((nx, .box [.yld y]) :: (HW R F cs p ++ ((dl.map fun j => (j, ABlk.dfr true)) ++ H2))))) = some b
        rcases lk_append_cases h with h | ⟨h', h⟩
        · exact lk_append_left h
        · rw [lk_append_right h']
          exact lk_skip hnx1 h
      refine pws_it_outer (own := HAs (denials R)[k] F cs (nx1 + 1)) (Hc := ((nx, .box [.yld y]) :: (HW R F cs p ++ ((dl.map fun j => (j, ABlk.dfr true)) ++ H2)))) (ClC C (nx1 + 4 + 1) (nx1 + 4) ((nx, .box [.yld y]) :: (HW R F cs p ++ (dl.map fun j => (j, ABlk.dfr true)))) (witP R F cs k)) (ClD D (nx1 + 4 + 1) (nx1 + 4) ((nx, .box [.yld y]) :: (HW R F cs p ++ (dl.map fun j => (j, ABlk.dfr true)))) (witP R F cs k)) rfl (asg_it (nx1 + 1) (by omega) ht0 hts hcs hcr) (fun i b h => h) ?_ (fun _ _ _ _ => trivial) ?_ ?_ ?_ ?_ ?_
      · intro i b hl
        simp only [HAs, lk] at hl
        (repeat' split at hl) <;> first | (subst_vars; exact hout _ (by omega)) | cases hl
      · rintro ys x zs hsp nx2 _ ⟨H1, rfl, hC, hdd, hL⟩
        have hst := hstep (witP R F cs k ++ ys) x (zs ++ Z) (by rw [hZ, hsp]; simp) nx2 H1 hC
        refine yc_of_pw (L := nx1 + 4 + 1) (if_pos rfl) rfl (by simp) (pw_of_pws ?_)
        clear hstep hK
        have ne_nx1___4_p : ¬ nx1 + 4 = p := by omega
        have ne_nx1___4_p' : ¬ p = nx1 + 4 := by omega
        have ne_nx1___4_p___1 : ¬ nx1 + 4 = p + 1 := by omega
        have ne_nx1___4_p___1' : ¬ p + 1 = nx1 + 4 := by omega
        have ne_nx1___4_p___2 : ¬ nx1 + 4 = p + 2 := by omega
        have ne_nx1___4_p___2' : ¬ p + 2 = nx1 + 4 := by omega
        have ne_nx1___4_nx : ¬ nx1 + 4 = nx := by omega
        have ne_nx1___4_nx' : ¬ nx = nx1 + 4 := by omega
        have ne_nx1___4___1_p : ¬ nx1 + 4 + 1 = p := by omega
        have ne_nx1___4___1_p' : ¬ p = nx1 + 4 + 1 := by omega
        have ne_nx1___4___1_p___1 : ¬ nx1 + 4 + 1 = p + 1 := by omega
        have ne_nx1___4___1_p___1' : ¬ p + 1 = nx1 + 4 + 1 := by omega
        have ne_nx1___4___1_p___2 : ¬ nx1 + 4 + 1 = p + 2 := by omega
        have ne_nx1___4___1_p___2' : ¬ p + 2 = nx1 + 4 + 1 := by omega
        have ne_nx1___4___1_nx : ¬ nx1 + 4 + 1 = nx := by omega
        have ne_nx1___4___1_nx' : ¬ nx = nx1 + 4 + 1 := by omega
        simp [putAll]
        repeat' (first | ((with_reducible refine pws_regk fun K' S hK' hS => ?_); simp [argSlots, *]) | ((with_reducible refine Goes.go hK' ?_); clear hK' hS; clear K' S) | with_reducible refine pws_nil ?_)
        refine ⟨rfl, by simp [lk], ?_⟩
        refine pw_of_pws ?_
        simp [St.upd, hset, lk]
        repeat' (first | with_reducible refine pws_seq ?_ | with_reducible refine pws_block ?_ | ((with_reducible refine pws_regk fun K' S hK' hS => ?_); simp [argSlots, *]) | ((with_reducible refine GoesS.go hS ?_); clear hK' hS; clear K' S))
        refine pwl_yieldk (c := ?_) (x := ?_) (y := y) (svs := [x]) (own := (nx1 + 4 + 1, _) :: (nx1 + 4, .dfr true) :: (nx, .box [.yld y]) :: (HW R F cs p ++ (dl.map fun j => (j, ABlk.dfr true)))) (Hs := H1) (Qr := _) ?_ ?_ ?_ ?_ ?_ ?_ rfl (disj_head hdd) (hst) ?_; rotate_left 2; (· first | rfl | (simp [*]; done)); (· rfl); (· rfl); (· first | rfl | (simp; done)); (· first | rfl | (simp; done)); (· rfl); rintro sv nx' H' hq hn hd; simp only at hn; rcases hq with ⟨rfl, hc⟩ | ⟨rfl, hc⟩
        · refine pwl_runk fun K' S hK' hS => ?_; simp [*]
          repeat' (first | with_reducible refine pws_skip ?_ | ((with_reducible refine Goes.go hK' ?_); clear hK' hS; clear K' S) | ((with_reducible refine pws_false ?_ ?_); (· simp; done)) | with_reducible refine blk_normal ?_ | with_reducible refine pws_nil ?_)
          refine ⟨by simp [lk], .inl ⟨rfl, H', by simp [hset], by simpa using hc, disj_head hd, by simp; omega⟩⟩
        · refine pwl_runk fun K' S hK' hS => ?_; simp [*]
          repeat' (first | ((with_reducible refine Goes.go hK' ?_); clear hK' hS; clear K' S) | ((with_reducible refine pws_true ?_ ?_); (· simp; done)) | with_reducible refine pws_ret ?_ | with_reducible refine blk_ret ?_)
          refine ⟨by simp [lk], .inr ⟨rfl, H', by simp [hset, doneOf], by simpa using hc, disj_head hd, by simp; omega⟩⟩
      · rintro ys nx2 nx3 _ ⟨H1, rfl, hC, hdd, hL⟩ hle
        exact ⟨H1, rfl, hmono _ _ _ _ hC hle, hdd, by omega⟩
      · have hH2 : ∀ i, nx1 ≤ i → lk i H2 = none := fun i hi => by
          have := hout i hi
          simp only [HW, lk, List.cons_append, List.nil_append] at this
          rw [if_neg (by omega), if_neg (by omega), if_neg (by omega), if_neg (by omega), lk_app, lk_map_dfr] at this
          split at this
          · cases this
          · simpa using this
        exact ⟨H2, rfl, by rw [List.append_nil]; exact hmono _ nx1 _ _ hC (by show nx1 ≤ nx1 + 4 + 2; omega), disj_cons (hH2 _ (by omega)) (disj_cons (hH2 _ (by omega)) hdd), by simp⟩
      · rintro sv nx2 _ ⟨H1, rfl, hC, hdd, hL⟩
        refine ⟨.ready, none, if_pos rfl, by decide, ?_⟩
        simp [hset]
        refine thenQ_normal ?_
        rw [← hwp] at hC
        clear hstep
        have hL1 : lk (nx1 + 4 + 1) H1 = none := hdd _ _ (if_pos rfl)
        have hLd : ∀ i, nx1 ≤ i → ¬ i ∈ dl := fun i hi h => by have := (hdl i h).2; omega
        have hM1 : lk (nx1 + 4) H1 = none := hdd _ (.dfr true) (by simp only [lk]; rw [if_neg (by omega), if_pos trivial])
        repeat' (first | ((with_reducible refine pws_regk fun K' S hK' hS => ?_); simp [argSlots, *]) | ((with_reducible refine Goes.go hK' ?_); clear hK' hS; clear K' S) | with_reducible refine blk_normal ?_ | with_reducible refine thenQ_normal ?_ | with_reducible refine pws_nil ?_)
        refine hK _ ⟨(k + 1, nx2, (nx1 + 4) :: dl, H1), by simp; omega⟩ (ent_keep rfl rfl rfl (fun t sv h => SubL.get (by simp [SubL, *]) h) (fun i b h => lk_move (own := (nx, .box [.yld y]) :: HW R F cs p) (by simp only [HW, lk]; rw [if_neg (by omega), if_neg (by omega), if_neg (by omega), if_neg (by omega)]) (by omega) (by show lk (nx1 + 4 + 1) ((dl.map fun j => (j, ABlk.dfr true)) ++ H1) = none; rw [lk_app, lk_map_dfr, if_neg (hLd _ (by omega)), hL1]; rfl) (by simp only [HW, lk]; rw [if_neg (by omega), if_neg (by omega), if_neg (by omega), if_neg (by omega)]) h)) ⟨?_, ?_, ?_, hC, by simp; omega⟩ (by simp; omega)
        · exact List.nodup_cons.2 ⟨hLd _ (by omega), hnd⟩
        · intro i hi
          rcases List.mem_cons.1 hi with rfl | hi
          · simp only; omega
          · have := hdl i hi
            simp only; omega
        · intro i b hl
          by_cases e : i = nx1 + 4
          · rw [e]; exact hM1
          · refine hdd i b ?_
            simp only [lk]
            have e2 : ¬ nx1 + 4 + 1 = i := fun e2 => by
              subst e2
              simp only [HW, lk, List.cons_append, List.nil_append, List.map_cons] at hl
              rw [if_neg (by omega), if_neg (by omega), if_neg (by omega), if_neg (by omega), if_neg (by omega), lk_map_dfr, if_neg (hLd _ (by omega))] at hl
              cases hl
            rw [if_neg e2, if_neg (fun x => e x.symm)]
            simp only [HW, lk, List.cons_append, List.nil_append, List.map_cons] at hl ⊢
            rw [if_neg (c := nx1 + 4 = i) (fun x => e x.symm)] at hl
            exact hl
      · rintro ys sv nx2 _ ⟨H1, rfl, hD, hdd, hL⟩
        refine ⟨.done, some .ret, if_pos rfl, by decide, pw_ret (thenQ_ret ?_)⟩
        simp [hset]
        have hM1 : lk (nx1 + 4) H1 = none := hdd _ (.dfr true) (by simp only [lk]; rw [if_neg (by omega), if_pos trivial])
        have hLd : ∀ i, nx1 ≤ i → ¬ i ∈ dl := fun i hi h => by have := (hdl i h).2; omega
        clear hstep hK
        repeat' (first | with_reducible refine blk_ret ?_ | with_reducible refine thenQ_ret ?_)
        refine fin_it (H1 := H1) (.inr rfl) (by rw [Tryz.results143]) (List.nodup_cons.2 ⟨hLd _ (by omega), hnd⟩) (fun i hi => ?_) (.inr ⟨_, hD⟩) (fun i b hl => ⟨fun hi => ?_, disj_sub (disj_head hdd) i b hl⟩)
        · rcases List.mem_cons.1 hi with rfl | hi
          · simp [lk]
          · have := hdl i hi
            simp only [lk]
            rw [if_neg (by omega), if_neg (by omega), if_neg (by omega), if_neg (by omega), if_neg (by omega), if_neg (by omega), lk_app, lk_map_dfr, if_pos hi]
            rfl
        · rcases List.mem_cons.1 hi with rfl | hi
          · rw [hM1] at hl; cases hl
          · have h1 := hdl i hi
            have h2 := hdd i (.dfr true) (by simp only [HW, lk, List.cons_append, List.nil_append]; rw [if_neg (by omega), if_neg (by omega), if_neg (by omega), if_neg (by omega), if_neg (by omega), if_neg (by omega), lk_map_dfr, if_pos hi])
            rw [h2] at hl
            cases hl
    · obtain rfl : k = (denials R).length := by omega
      clear hK
      rw [witP_all] at hC
      repeat' (first | with_reducible refine pws_seq ?_ | ((with_reducible refine pws_regk fun K' S hK' hS => ?_); simp [argSlots, *]) | ((with_reducible refine Goes.go hK' ?_); clear hK' hS; clear K' S) | ((with_reducible refine pws_false ?_ ?_); (· simp; done)) | with_reducible refine blk_same ?_ | with_reducible refine thenQ_exit ?_ | with_reducible refine pws_nil ?_ | with_reducible refine pws_exit ?_)
      refine fin_it (H1 := H2) (.inl rfl) (by rw [Tryz.results143]) hnd (fun i hi => ?_) (.inl hC) (fun i b hl => ⟨fun hi => ?_, disj_sub hdd i b hl⟩)
      · have := (hdl i hi).1
        simp only [lk]
        rw [if_neg (by omega), if_neg (by omega), if_neg (by omega), if_neg (by omega), lk_app, lk_map_dfr, if_pos hi]
        rfl
      · have h1 := (hdl i hi).1
        have h2 := hdd i (.dfr true) (by simp only [HW, lk, List.cons_append, List.nil_append]; rw [if_neg (by omega), if_neg (by omega), if_neg (by omega), if_neg (by omega), lk_map_dfr, if_pos hi])
        rw [h2] at hl
        cases hl
  · rintro ys sv nx2 _ ⟨H1, rfl, hD, hdd, hL⟩
    refine ⟨.done, some .ret, if_pos rfl, by decide, pw_ret (thenQ_ret ?_)⟩
    simp [hset]
    refine blk_ret ?_
    have hM1 : lk (nx + 3) H1 = none := hdd _ (.dfr true) (by simp [lk])
    refine fin_it (H1 := H1) (.inr rfl) (by rw [Tryz.results143]) (by simp) (by simp [lk]) (.inr ⟨_, hD⟩) (fun i b hl => ⟨?_, disj_sub (disj_head hdd) i b hl⟩)
    simp only [List.mem_singleton]
    rintro rfl
    rw [hM1] at hl
    cases hl
end
section
attribute [local simp] V.c V.z Sd.c Tst.c Fx.c Rl.c Fc.c Gr.c wrap1f take_map_len take_map_len1 wrap1 wrap2 wrap3
abbrev HB (b : Bool) : List (Nat × ABlk) := [(0, .box [sbool b])]
theorem SetP.len {l : List Int} {n : Nat} (h : SetP l n) : l.length ≤ n := by
  have key : ∀ (i : Nat) (hi : i < l.length), (i : Int) ≤ l[i] := by
    intro i
    induction i with
    | zero => intro hi; exact (h 0 hi).1
    | succ i ih =>
      intro hi
      have h1 := ih (by omega)
      have h2 := (h (i + 1) hi).2.2 (by omega)
      simp only [Nat.add_sub_cancel] at h2
      omega
  cases hl : l.length with
  | zero => omega
  | succ m =>
    have h1 := key m (by omega)
    have h2 := (h m (by omega)).2.1
    omega
theorem consistent_ok (R : List Rl) (F : List Fc) (l : List Int) (hR : OkR R) (hlR : R.length ≤ 1000) (hlF : F.length ≤ 1000000) : CC Tryz.prog 37 [.pv (.sl 10 (prules R)), .pv (.sl 6 (pfacts F)), .pv (.sl 1 (ints l))] (fun sv => sv = sbool (consL R F l)) := by
  refine cc_of_pw Tryz.func37 rfl enters37 Tryz.ntmps37 (by simp) (pw_of_pws ?_)
  refine pws_ent (Ent.refl _) (pws_len (t := 2) (es := 1) (xs := ints l) rfl fun hx => ?_)
  simp [maxLen] at hx
  repeat' (first | with_reducible refine pws_seq ?_ | with_reducible refine pws_block ?_ | ((with_reducible refine pws_regk fun K' S hK' hS => ?_); simp [argSlots, *]) | ((with_reducible refine Goes.go hK' ?_); clear hK' hS; clear K' S))
  refine pws_loop (α := { v : Nat // v ≤ l.length }) (fun v => { n := 43, nx := 1, s := [(11, sint v.1), (10, sint l.length), (9, .pv (.sl 1 (ints l))), (6, .ref 0 0), (0, .pv (.sl 10 (prules R))), (1, .pv (.sl 6 (pfacts F))), (2, .pv (.sl 1 (ints l)))], h := HB false, d := [] }) (fun v => l.length - v.1) (fun v => ∀ (i : Nat) (h : i < l.length), i < v.1 → 0 ≤ l[i] ∧ l[i] < F.length ∧ (∀ h0 : 0 < i, l[i - 1] < l[i])) ⟨0, by omega⟩ (by simp) (ent_keep rfl rfl rfl (fun t sv h => SubL.get (by simp [SubL, *]) h) (fun i b h => h)) ?_
  rintro ⟨k, hk⟩ hok K hK
  simp only at hok
  by_cases h1 : k < l.length
  · have hw := wrap64_id (n := (k : Int) + 1) (by omega)
    have hcf : ¬ SetP l F.length → consL R F l = false := fun h => by
      cases hc : consL R F l with
      | false => rfl
      | true => exact absurd (consL_iff.1 hc).1 h
    by_cases g1 : l[k] < 0
    · have hs : consL R F l = false := hcf fun h => by have := (h k h1).1; omega
      clear hok hcf
      repeat' (first | with_reducible refine pws_seq ?_ | with_reducible refine pws_skip ?_ | with_reducible refine pws_block ?_ | ((with_reducible refine pws_regk fun K' S hK' hS => ?_); simp [argSlots, *]) | ((with_reducible refine Goes.go hK' ?_); clear hK' hS; clear K' S) | ((with_reducible refine pws_true ?_ ?_); (· simp; done)) | with_reducible refine pws_ret ?_ | with_reducible refine blk_ret ?_ | with_reducible refine thenQ_ret ?_)
      all_goals (refine finC_ret (vs := ?_) [] (by first | exact .inr rfl | exact .inl rfl) rfl ?_ ?_ ?_; rotate_left; (· simp [Tryz.results37, resL, resOf]; rfl); (· first | rfl | (simp [wrapRes, cv, SV.const, constL]; done)); (· first | (simp [wrapRes, cv, *]; done) | (simp [wrapRes, cv, *]; grind) | (simp [wrapRes, cv, *]; omega)))
    · by_cases g2 : F.length ≤ l[k]
      · have hs : consL R F l = false := hcf fun h => by have := (h k h1).2.1; omega
        clear hok hcf
        repeat' (first | with_reducible refine pws_seq ?_ | with_reducible refine pws_skip ?_ | with_reducible refine pws_block ?_ | ((with_reducible refine pws_regk fun K' S hK' hS => ?_); simp [argSlots, *]) | ((with_reducible refine Goes.go hK' ?_); clear hK' hS; clear K' S) | ((with_reducible refine pws_true ?_ ?_); (· simp; done)) | with_reducible refine pws_ret ?_ | with_reducible refine blk_ret ?_ | with_reducible refine thenQ_ret ?_)
        all_goals (refine finC_ret (vs := ?_) [] (by first | exact .inr rfl | exact .inl rfl) rfl ?_ ?_ ?_; rotate_left; (· simp [Tryz.results37, resL, resOf]; rfl); (· first | rfl | (simp [wrapRes, cv, SV.const, constL]; done)); (· first | (simp [wrapRes, cv, *]; done) | (simp [wrapRes, cv, *]; grind) | (simp [wrapRes, cv, *]; omega)))
      · by_cases hk0 : k = 0
        · subst hk0
          have hok' : ∀ (i : Nat) (h : i < l.length), i < 1 → 0 ≤ l[i] ∧ l[i] < F.length ∧ (∀ h0 : 0 < i, l[i - 1] < l[i]) := fun i h hi => by
            obtain rfl : i = 0 := by omega
            exact ⟨by omega, by omega, fun h0 => by omega⟩
          clear hok hcf
          repeat' (first | with_reducible refine pws_seq ?_ | with_reducible refine pws_skip ?_ | with_reducible refine pws_block ?_ | ((with_reducible refine pws_regk fun K' S hK' hS => ?_); simp [argSlots, *]) | ((with_reducible refine Goes.go hK' ?_); clear hK' hS; clear K' S) | ((with_reducible refine pws_true ?_ ?_); (· simp; done)) | ((with_reducible refine pws_false ?_ ?_); (· simp; done)) | with_reducible refine blk_normal ?_ | with_reducible refine thenQ_normal ?_ | with_reducible refine pws_nil ?_)
          refine hK _ ⟨1, by omega⟩ (ent_keep rfl rfl rfl (fun t sv h => SubL.get (by simp [SubL, *]) h) (fun i b h => h)) ?_ (by simp; omega)
          exact hok'
        · obtain ⟨m, hm⟩ : ∃ m : Nat, (k : Int) - 1 = m := ⟨k - 1, by omega⟩
          have hw0 := wrap64_id (n := (m : Int)) (by omega)
          have h2 : m < l.length := by omega
          have hk1 : 0 < k := by omega
          have hmk : k - 1 = m := by omega
          by_cases g3 : l[k] ≤ l[m]
          · have hs : consL R F l = false := hcf fun h => by
              have := (h k h1).2.2 (by omega)
              simp only [hmk] at this
              omega
            clear hok hmk hcf
            repeat' (first | with_reducible refine pws_seq ?_ | with_reducible refine pws_skip ?_ | with_reducible refine pws_block ?_ | ((with_reducible refine pws_regk fun K' S hK' hS => ?_); simp [argSlots, *]) | ((with_reducible refine Goes.go hK' ?_); clear hK' hS; clear K' S) | ((with_reducible refine pws_true ?_ ?_); (· simp; done)) | with_reducible refine pws_ret ?_ | with_reducible refine blk_ret ?_ | with_reducible refine thenQ_ret ?_)
            all_goals (refine finC_ret (vs := ?_) [] (by first | exact .inr rfl | exact .inl rfl) rfl ?_ ?_ ?_; rotate_left; (· simp [Tryz.results37, resL, resOf]; rfl); (· first | rfl | (simp [wrapRes, cv, SV.const, constL]; done)); (· first | (simp [wrapRes, cv, *]; done) | (simp [wrapRes, cv, *]; grind) | (simp [wrapRes, cv, *]; omega)))
          · have hok' : ∀ (i : Nat) (h : i < l.length), i < k + 1 → 0 ≤ l[i] ∧ l[i] < F.length ∧ (∀ h0 : 0 < i, l[i - 1] < l[i]) := fun i h hi => by
              by_cases e : i = k
              · subst e
                exact ⟨by omega, by omega, fun h0 => by simp only [hmk]; omega⟩
              · exact hok i h (by omega)
            clear hok hmk hcf
            repeat' (first | with_reducible refine pws_seq ?_ | with_reducible refine pws_skip ?_ | with_reducible refine pws_block ?_ | ((with_reducible refine pws_regk fun K' S hK' hS => ?_); simp [argSlots, *]) | ((with_reducible refine Goes.go hK' ?_); clear hK' hS; clear K' S) | ((with_reducible refine pws_true ?_ ?_); (· simp; done)) | ((with_reducible refine pws_false ?_ ?_); (· simp; done)) | with_reducible refine blk_normal ?_ | with_reducible refine thenQ_normal ?_ | with_reducible refine pws_nil ?_)
            refine hK _ ⟨k + 1, by omega⟩ (ent_keep rfl rfl rfl (fun t sv h => SubL.get (by simp [SubL, *]) h) (fun i b h => h)) ?_ (by simp; omega)
            exact hok'
  · have hs : SetP l F.length := fun i h => hok i h (by omega)
    clear hok hK
    have hsi := setP_iff.1 hs
    have hcr : Rng F l := hsi.2
    have hcl : l.length ≤ 1000000 := Nat.le_trans hs.len hlF
    have hcw : consL R F l = decide (wits R F l = []) := by
      rw [Bool.eq_iff_iff, consL_iff, decide_eq_true_eq, wits_nil hsi.1]
      exact ⟨fun h => h.2, fun h => ⟨hs, h⟩⟩
    repeat' (first | with_reducible refine pws_seq ?_ | ((with_reducible refine pws_regk fun K' S hK' hS => ?_); simp [argSlots, *]) | ((with_reducible refine Goes.go hK' ?_); clear hK' hS; clear K' S) | ((with_reducible refine GoesS.go hS ?_); clear hK' hS; clear K' S) | ((with_reducible refine pws_false ?_ ?_); (· simp; done)) | with_reducible refine blk_same ?_ | with_reducible refine thenQ_exit ?_ | with_reducible refine pws_exit ?_)
    have hwo := wits_ok R F l 1 (HB false)
    refine pwl_callpk (c := ?_) (x := ?_) (f := 82) (caps := []) (svs := [.pv (.sl 10 (prules R)), .pv (.sl 6 (pfacts F)), .pv (.sl 1 (ints l))]) (own := []) (Hs := HB false) (Qr := _) ?_ ?_ ?_ ?_ ?_ ?_ (fun i b h => h) (fun i b h => by simp only [List.cons_append, List.nil_append, lk] at h ⊢; (repeat' split at h) <;> (try subst_vars) <;> first | (subst_vars; simp [*]; done) | (simp_all; done) | (simp_all; omega)) (hwo) ?_; rotate_left 2; (· first | rfl | (simp [*]; done)); (· rfl); (· rfl); (· first | rfl | (simp; done)); (· first | rfl | (simp; done)); (· rfl); rintro sv nx' H' hq hn hd
    obtain ⟨rfl, rfl, rfl⟩ := hq
    clear hwo hd hn
    refine pwl_runk fun K' S hK' hS => ?_; simp [*]
    repeat' (first | with_reducible refine pws_block ?_ | ((with_reducible refine Goes.go hK' ?_); clear hK' hS; clear K' S))
    refine pws_ent (st' := { n := 43, nx := 4, s := [(41, .clos 143 (caW 1)), (6, .ref 0 0)], h := HW R F l 1 ++ HB false, d := [] }) (ent_keep rfl rfl rfl (fun t sv h => SubL.get (by simp [SubL, *]) h) (fun i b h => h)) ?_
    refine pws_it_outer (own := HW R F l 1) (Hc := HB false) (fun blk ys nx' H' => ys = [] ∧ H' = (5, blk) :: (4, .dfr true) :: HB false ∧ 6 ≤ nx') (fun blk _ nx' H' => wits R F l ≠ [] ∧ H' = (5, doneOf blk) :: (4, .dfr true) :: HB false ∧ 6 ≤ nx') rfl (wit_it 1 hR hlR hcl hcr) (fun i b h => h) ?_ (fun _ _ _ _ => trivial) ?_ ?_ ?_ ?_ ?_
    · intro i b hl
      simp only [HW, lk] at hl
      simp only [HB, lk]
      (repeat' split at hl) <;> first | (subst_vars; rfl) | cases hl
    · rintro ys x zs hsp nx2 _ ⟨rfl, rfl, hn⟩
      have hne : wits R F l ≠ [] := fun e => by simp [witV, e] at hsp
      clear hsp hcw
      refine yc_of_pw (L := 5) (if_pos rfl) rfl (by simp) (pw_of_pws ?_)
      simp [putAll]
      repeat' (first | with_reducible refine pws_skip ?_ | with_reducible refine pws_nil ?_)
      refine ⟨rfl, by simp [lk], ?_⟩
      refine pw_of_pws ?_
      simp [St.upd, hset, lk]
      repeat' (first | with_reducible refine pws_seq ?_ | with_reducible refine pws_block ?_ | ((with_reducible refine pws_regk fun K' S hK' hS => ?_); simp [argSlots, *]) | ((with_reducible refine Goes.go hK' ?_); clear hK' hS; clear K' S) | with_reducible refine pws_ret ?_ | with_reducible refine blk_ret ?_)
      refine ⟨by simp [lk], .inr ⟨rfl, hne, by simp [hset, doneOf], by simp; omega⟩⟩
    · rintro ys nx2 nx3 _ ⟨rfl, rfl, hn⟩ hle
      exact ⟨rfl, rfl, by omega⟩
    · exact ⟨rfl, rfl, by simp⟩
    · rintro sv nx2 _ ⟨he, rfl, hn⟩
      have hs2 : consL R F l = true := by rw [hcw]; simpa [witV] using he
      clear hcw he
      refine ⟨.ready, none, if_pos rfl, by decide, ?_⟩
      simp [hset]
      refine thenQ_normal ?_
      repeat' (first | with_reducible refine pws_seq ?_ | ((with_reducible refine pws_regk fun K' S hK' hS => ?_); simp [argSlots, *]) | ((with_reducible refine Goes.go hK' ?_); clear hK' hS; clear K' S) | with_reducible refine pws_ret ?_ | with_reducible refine blk_normal ?_ | with_reducible refine pws_nil ?_)
      refine finP_end (vs := [sbool true]) (h := ?_) (.inr rfl) (Ent.refl _) ?_ ?_ ?_
      rotate_left
      · simp [shut, lk, hset]
        rfl
      · simp [Tryz.results37, resL, resOf, lk]
      · exact ⟨by simp [wrapRes, cv, hs2], rfl⟩
    · rintro ys sv nx2 _ ⟨he, rfl, hn⟩
      have hs2 : consL R F l = false := by rw [hcw]; simpa using he
      clear hcw he
      refine ⟨.done, some .ret, if_pos rfl, by decide, pw_ret (thenQ_ret ?_)⟩
      simp [hset]
      repeat' (first | with_reducible refine blk_ret ?_)
      refine finP_end (vs := [sbool false]) (h := ?_) (.inr rfl) (Ent.refl _) ?_ ?_ ?_
      rotate_left
      · simp [shut, lk, hset]
        rfl
      · simp [Tryz.results37, resL, resOf, lk]
      · exact ⟨by simp [wrapRes, cv, hs2], rfl⟩
end
end Go.Proofs.T1
/- Strings that are built of bytes: a part of a string, a string appended, bytes to a string. -/
namespace Go.Vc
open Go.RowKit Go.Lib
variable {P : Program} {n0 : Nat} {r : Option Nat}
abbrev bytesE (l : List UInt8) : List (List PV) := l.map fun b => [PV.lit (.int .u8 (b.toNat : Int))]
theorem strCells_get {s : ByteArray} {k : Nat} {b : UInt8} (h : s.data.toList[k]? = some b) : (strCells s)[k]? = some (.int .u8 b.toNat) := by
  unfold strCells
  rw [List.getElem?_map, h]
  rfl
theorem get2_bytes {l : List UInt8} {k j : Nat} {p : PV} (h : get2 (bytesE l) k j = some p) : ∃ b, l[k]? = some b ∧ j = 0 ∧ p = .lit (.int .u8 (b.toNat : Int)) := by
  obtain ⟨x, h1, h2⟩ := get2_some h
  unfold bytesE at h1
  rw [List.getElem?_map] at h1
  obtain ⟨b, hb, rfl⟩ := Option.map_eq_some_iff.1 h1
  cases j with
  | zero => simp at h2; exact ⟨b, hb, rfl, h2.symm⟩
  | succ j => simp at h2
theorem run_append_str {I : Nat → Nat → Prop} {w : World} {t u ty e : TypeId} {i : TypeInfo} (ht : P.underlying t = some (.slice e)) (hu : P.underlying u = some .string) (hi : P.info? e = some i) (hz : i.zero = some (.int .u8 0)) (hsz : i.size = 1) (hby : i.bytes = 1)
    {v : Value} {n : Nat} {ms : List Value} (hown : w.ownsRow 0 e 1 v n ms) {xs : List (List PV)} (hxl : xs.length = n) (hxr : ∀ k j p, get2 xs k j = some p → ∃ u, ms[k * 1 + j]? = some u ∧ Rep I w p u) (s : ByteArray) (hfit : n + s.size ≤ 140737488355328) :
    ∃ v' w' ms', (Builtin.append_ #[t, u] ty #[v, .string s]).run P w = .ok v' w' ∧ w'.ownsRow 0 e 1 v' (n + s.size) ms' ∧ w.grownBy w' v.ownBlock ∧ (v'.ownBlock = v.ownBlock ∨ v'.ownBlock = some w.heap.size) ∧
      ∀ k j p, get2 (xs ++ bytesE s.data.toList) k j = some p → ∃ u, ms'[k * 1 + j]? = some u ∧ Rep I w p u := by
  have h63 : n + s.size ≤ maxLen := by simp only [maxLen]; omega
  obtain ⟨v', w', hr, h1, h2, h3⟩ := run_append_own_string (P := P) (w := w) 0 t u ty e i ht hu hi hz hsz hby v n ms hown s h63 hfit (Nat.zero_le _)
  have hml : ms.length = n := by simpa using hown.1
  refine ⟨v', w', _, hr, h1, h2, ?_, fun k j p hp => ?_⟩
  · rcases hown.2 with ⟨rfl, rfl⟩ | ⟨g, cap, cur, rfl, _, hg, hnc, hcm, hcs, htk⟩
    · by_cases hs : s.size = 0
      · have := h3.2 ⟨rfl, hs⟩
        subst this
        exact .inl rfl
      · have hr2 := run_append_nil_string (P := P) (w := w) t u ty e i _ ht hu hi hz s (by omega) (by omega) (by rw [hby]; omega)
        rw [hr] at hr2
        injection hr2 with e1 e2
        rw [e1]
        exact .inr rfl
    · by_cases hfc : n + s.size ≤ cap
      · have hr2 := run_append_room_string (P := P) w t u ty e i ht hu hi hsz g n cap cur hg s hfc (by simp at hcs; omega)
        rw [hr] at hr2
        injection hr2 with e1 e2
        rw [e1]
        exact .inl rfl
      · have hr2 := run_append_grow_string (P := P) (w := w) t u ty e i _ ht hu hi hz ⟨g, 0, none⟩ n cap ms (by rw [hsz]; simpa using hml) (hown.cells (g := g) rfl) s (by omega) (by omega) (by rw [hby]; exact growslice_fits (by omega) (by omega))
        rw [hr] at hr2
        injection hr2 with e1 e2
        rw [e1]
        exact .inr rfl
  · by_cases hk : k < xs.length
    · have hp' : get2 xs k j = some p := by
        unfold get2 at hp ⊢
        rwa [List.getElem?_append_left hk] at hp
      obtain ⟨u, hu, hr⟩ := hxr k j p hp'
      refine ⟨u, ?_, hr⟩
      rw [List.getElem?_append_left (List.getElem?_eq_some_iff.1 hu).1]
      exact hu
    · have hp' : get2 (bytesE s.data.toList) (k - xs.length) j = some p := by
        unfold get2 at hp ⊢
        rwa [List.getElem?_append_right (by omega)] at hp
      obtain ⟨b, hb, rfl, rfl⟩ := get2_bytes hp'
      refine ⟨_, ?_, .lit _ rfl⟩
      rw [List.getElem?_append_right (by omega)]
      have e1 : k * 1 + 0 - ms.length = k - xs.length := by omega
      rw [e1]
      exact strCells_get hb
theorem append_exec' {o : Oper} {a : Act} {w w' : World} {s x : Operand} {t u : TypeId} {v : Value} (ho : o.op = .call { callee := .builtin .append, args := #[s, x], argTypes := #[t, u] })
    (h : (Builtin.append_ #[t, u] o.type #[a.eval s, a.eval x]).run P w = .ok v w') : (execOp a.eval o).run P w = .ok (.value v) w' := by
  unfold execOp
  simp [ho, resolve, invoke, builtin, h]
/-- 'append' of a string onto an array of one's own. -/
theorem pwo_append_str {o : Oper} {s x : Operand} {t u e id g len : Nat} {i : TypeInfo} {str : ByteArray} {xs : List (List PV)} {K : St → Prop} {st : St} (ho : o.op = .call { callee := .builtin .append, args := #[s, x], argTypes := #[t, u] })
    (ht : P.underlying t = some (.slice e)) (hu : P.underlying u = some .string) (hi : P.info? e = some i) (hz : i.zero = some (.int .u8 0)) (hsz : i.size = 1) (hby : i.bytes = 1)
    (hs : st.ev s = some (.loc 1 id g 0 len)) (hl : lk id st.h = some (.arr e 1 g false xs)) (hlen : len ≤ xs.length) (hx : st.ev x = some (.pv (.lit (.string str)))) (hfit : len + str.size ≤ 140737488355328) (hf : st.fits o.dst = true)
    (hK : K ((st.upd id (.arr e 1 (g + 1) false (xs.take len ++ bytesE str.data.toList))).put o.dst (.loc 1 id (g + 1) 0 (len + str.size)))) : PWo P n0 r o K st := by
  refine pwo_run (fun c hc => by rw [ho] at hc; cases hc) fun I φ a w hR hn0 => ?_
  have hxv := (ev_ok hR hx).lit_inv
  obtain ⟨h0, hxe, hB⟩ := hR.rh.blk _ _ hl
  have hsv := ev_ok hR hs
  generalize hev : a.eval s = v at hsv
  have hrow : ∃ ms, w.ownsRow 0 e 1 v len ms ∧ (∀ k j p, get2 (xs.take len) k j = some p → ∃ u, ms[k * 1 + j]? = some u ∧ Rep I w p u) ∧ v.ownBlock = mblk φ id (.arr e 1 g false xs) := by
    cases hsv with
    | locNil _ _ _ hφ =>
      exact ⟨[], ⟨by simp, .inl ⟨rfl, rfl⟩⟩, fun k j p hp => by simp [get2] at hp, by simp [mblk, hφ, Value.ownBlock]⟩
    | loc _ _ _ _ _ b c A hφ hle hmx hA =>
      rcases hB with ⟨h1, _⟩ | ⟨b', c', vs, h1, h2, h3, h4, h5, h6, h7⟩
      · rw [h1] at hφ; cases hφ
      · rw [h1] at hφ
        injection hφ with hφ; injection hφ with hφ
        obtain ⟨rfl, rfl⟩ := Prod.mk.inj hφ
        have hA' := hA (.inr rfl)
        subst hA'
        refine ⟨vs.toList.take (len * 1), ⟨?_, .inr ⟨b', c', vs, by simp, Nat.zero_le _, h2, by omega, h5, h3, rfl⟩⟩, fun k j p hp => ?_, by simp [mblk, h1, Value.ownBlock]⟩
        · simp; omega
        · have hk := get2_lt hp
          have hkl : k < len := by simp at hk; omega
          have hp' : get2 xs k j = some p := by
            unfold get2 at hp ⊢
            rwa [List.getElem?_take, if_pos hkl] at hp
          have hj := (get2_flat hxe hp').2
          obtain ⟨u, hu, hr⟩ := h6 k j p hp'
          refine ⟨u, ?_, hr⟩
          rw [List.getElem?_take, if_pos (by omega)]
          simpa using hu
  obtain ⟨ms, hown, hxr, hob⟩ := hrow
  obtain ⟨v', w', ms', hrun, q1, q2, q3, q4⟩ := run_append_str (I := I) (ty := o.type) ht hu hi hz hsz hby hown (xs := xs.take len) (by simp; omega) hxr str hfit
  rw [hob] at q2 q3
  have hold : ∀ k, k < w.heap.size → mblk φ id (.arr e 1 g false xs) ≠ some k → w'.heap[k]? = w.heap[k]? := fun k hk hm => q2.block k hk fun e => hm e.symm
  have hI : ∀ k κ, I k κ → w'.heap[k]? = w.heap[k]? := fun k κ hk => hold k (hR.rh.ilt k _ hk) fun e => (hR.rh.mlt _ _ k hl e).2 κ hk
  have hels : ∀ y ∈ xs.take len ++ bytesE str.data.toList, y.length = 1 := fun y hy => by
    rcases List.mem_append.1 hy with hy | hy
    · exact hxe y (List.mem_of_mem_take hy)
    · obtain ⟨b, _, rfl⟩ := List.mem_map.1 hy; rfl
  have hsl : str.data.toList.length = str.size := by rw [Array.length_toList]; rfl
  have hcl : (xs.take len ++ bytesE str.data.toList).length = len + str.size := by rw [List.length_append, List.length_take, List.length_map, hsl]; omega
  have hev' : (Builtin.append_ #[t, u] o.type #[a.eval s, a.eval x]).run P w = .ok v' w' := by rw [hev, hxv]; exact hrun
  rcases own_place q1 with ⟨rfl, hnil⟩ | ⟨g', cap, cur, rfl, c1, c2, c3, c4, c5, c6⟩
  · have hnn : xs.take len ++ bytesE str.data.toList = [] := List.eq_nil_of_length_eq_zero (by omega)
    have hup := hR.app (n0 := n0) (w' := w') (xs' := xs.take len ++ bytesE str.data.toList) (y := none) hl ⟨q2.os, q2.tape, q2.output, run_drawn _ hrun, q2.size⟩ hold ⟨h0, hels, .inl ⟨phiAt_same, hnn⟩⟩ (fun b hb => by simp [mblk, phiAt_same] at hb)
    refine ⟨_, w', append_exec' ho hev', .inl ⟨_, rfl, _, I, _, hK, hup.1.put (by rw [fits_upd]; exact hf) ?_, by cases o.dst <;> exact hn0, ?_⟩⟩
    · rw [hnil]; exact .locNil _ _ _ phiAt_same
    · have : ((st.upd id (.arr e 1 (g + 1) false (xs.take len ++ bytesE str.data.toList))).put o.dst (.loc 1 id (g + 1) 0 (len + str.size))).h = (st.upd id (.arr e 1 (g + 1) false (xs.take len ++ bytesE str.data.toList))).h := by cases o.dst <;> rfl
      rw [this]
      exact hup.2
  · have hgl : g' < w'.heap.size := (Array.getElem?_eq_some_iff.1 c1).1
    have hup := hR.app (n0 := n0) (w' := w') (xs' := xs.take len ++ bytesE str.data.toList) (y := some (g', cap)) hl ⟨q2.os, q2.tape, q2.output, run_drawn _ hrun, q2.size⟩ hold
      ⟨h0, hels, .inr ⟨g', cap, cur, phiAt_same, c1, c4, by omega, c3, fun k j p hp => by obtain ⟨u, hu, hr⟩ := q4 k j p hp; exact ⟨u, c6 _ _ hu, hr.mono hI fun _ _ h => h⟩, fun h => by cases h⟩⟩
      (fun b hb => by
        simp only [mblk, phiAt_same, Option.bind_some, _root_.id, Option.map_some, Option.some.injEq] at hb
        subst hb
        rw [c5] at q3
        rcases q3 with q3 | q3
        · exact .inl q3.symm
        · injection q3 with q3; exact .inr ⟨by omega, hgl⟩)
    refine ⟨_, w', append_exec' ho hev', .inl ⟨_, rfl, _, I, _, hK, hup.1.put (by rw [fits_upd]; exact hf) ?_, by cases o.dst <;> exact hn0, ?_⟩⟩
    · have := Srel.loc (I := I) (φ := phiAt φ id (g + 1) (some (g', cap))) (w := w') 1 id (g + 1) 0 (len + str.size) g' cap (some ⟨g', 0, none⟩) phiAt_same (by omega) c3 (fun _ => by simp)
      simpa using this
    · have : ((st.upd id (.arr e 1 (g + 1) false (xs.take len ++ bytesE str.data.toList))).put o.dst (.loc 1 id (g + 1) 0 (len + str.size))).h = (st.upd id (.arr e 1 (g + 1) false (xs.take len ++ bytesE str.data.toList))).h := by cases o.dst <;> rfl
      rw [this]
      exact hup.2
/-- Bytes to a string. -/
theorem pwo_b2s {o : Oper} {x : Operand} {t u e : TypeId} {sx : SV} {bs : List UInt8} {K : St → Prop} {st : St} (ho : o.op = .convert t u x) (ht : P.underlying t = some (.slice e)) (he : P.underlying e = some (.int .u8)) (hu : P.underlying u = some .string)
    (hx : st.ev x = some sx) (hn : srcOf st.h 1 sx = some (bytesE bs)) (hf : st.fits o.dst = true) (hK : K (st.put o.dst (.pv (.lit (.string ⟨bs.toArray⟩))))) : PWo P n0 r o K st := by
  refine pwo_valq (fun c => by rw [ho]; simp) (fun I φ a w hR => ?_) hf hK
  obtain ⟨⟨A, c, hv, hA, hcell⟩, hels⟩ := srcOf_ok hR.rh hn (ev_ok hR hx)
  refine ⟨.string ⟨bs.toArray⟩, ?_, .pv _ _ (.lit _ rfl)⟩
  have hlen : (bytesE bs).length = bs.length := by simp
  unfold execOp
  simp only [ho, Sem.run_bind, hv, hlen]
  cases A with
  | none =>
    have hb : bs = [] := by
      cases bs with
      | nil => rfl
      | cons b l => obtain ⟨ad, h⟩ := hA (by simp); cases h
    subst hb
    have := run_convert_bytes_string (P := P) w t u e none 0 c ht he hu
    simp only [List.length_nil, this]
    rfl
  | some ad =>
    have := run_convert_bytes_back (P := P) w t u e ad c bs ht he hu (fun j hj => by
      have hg : get2 (bytesE bs) j 0 = some (.lit (.int .u8 (bs[j].toNat : Int))) := by simp [get2, bytesE, List.getElem?_eq_getElem hj]
      obtain ⟨u, h1, h2⟩ := hcell ad j 0 _ rfl hg
      have h3 := (Srel.pv (φ := φ) _ _ h2).lit_inv
      rw [h3] at h1
      simpa using h1)
    rw [this]
    rfl
end Go.Vc
namespace Go.Vc
open Go.RowKit Go.Lib
variable {P : Program} {n0 : Nat} {r : Option Nat}
theorem pwl_b2s {ops : Array Oper} {o : Oper} {l : List Oper} {x : Operand} {t u e : TypeId} {sx : SV} (bs : List UInt8) {K : St → Prop} {st : St} (hg : gate ops st o = some true) (ho : o.op = .convert t u x) (ht : P.underlying t = some (.slice e)) (he : P.underlying e = some (.int .u8)) (hu : P.underlying u = some .string)
    (hx : st.ev x = some sx) (hn : srcOf st.h 1 sx = some (bytesE bs)) (hf : st.fits o.dst = true) (hK : PWl P n0 r ops l K (st.put o.dst (.pv (.lit (.string ⟨bs.toArray⟩))))) : PWl P n0 r ops (o :: l) K st :=
  gate_true hg hf fun _ hK' => pwo_b2s ho ht he hu hx hn hf (hK' _ hK)
theorem pwl_append_str {ops : Array Oper} {o : Oper} {l : List Oper} {s x : Operand} {t u e id g len : Nat} {str : ByteArray} {xs : List (List PV)} {K : St → Prop} {st : St} (hg : gate ops st o = some true) (ho : o.op = .call { callee := .builtin .append, args := #[s, x], argTypes := #[t, u] })
    (ht : P.underlying t = some (.slice e)) (hu : P.underlying u = some .string) (hi : tsz P e = some 1) (hz : tzero1 P e = some (.int .u8 0)) (hby : tbytes P e = some 1)
    (hs : st.ev s = some (.loc 1 id g 0 len)) (hl : lk id st.h = some (.arr e 1 g false xs)) (hlen : len ≤ xs.length) (hx : st.ev x = some (.pv (.lit (.string str)))) (hfit : len + str.size ≤ 140737488355328) (hf : st.fits o.dst = true)
    (hK : PWl P n0 r ops l K ((st.upd id (.arr e 1 (g + 1) false (xs.take len ++ bytesE str.data.toList))).put o.dst (.loc 1 id (g + 1) 0 (len + str.size)))) : PWl P n0 r ops (o :: l) K st := by
  obtain ⟨i, hi1, hi2⟩ := Option.map_eq_some_iff.1 (show (P.info? e).map (·.size) = some 1 from hi)
  have hz' : i.zero = some (.int .u8 0) := by
    unfold tzero1 at hz
    simp only [hi1, Option.bind_some] at hz
    obtain ⟨z, h1, h2⟩ := Option.bind_eq_some_iff.1 hz
    split at h2
    · injection h2 with h2; rw [h1, h2]
    · cases h2
  have hb' : i.bytes = 1 := by simpa [tbytes, hi1] using hby
  exact gate_true hg hf fun _ hK' => pwo_append_str ho ht hu hi1 hz' hi2 hb' hs hl hlen hx hfit hf (hK' _ hK)
end Go.Vc
namespace Go.Proofs.T1
open Go.Vc
open Tryz
set_option linter.unusedSimpArgs false
set_option linter.unusedVariables false
set_option maxHeartbeats 4000000
set_option maxRecDepth 20000
attribute [local simp] runD_nil runD_cons runDO runDG runDV stabs stabO stabG runK_nil runK_cons runG_t runG_f runS_some runS_none gate dstOf step2 step1 vq vop vlook mput mfind isKeyB keq fin1 hbox halloc hstore hbuild hbuildSlice happend hmake vslice bound vbuild partsOf elemsOf inOrder topvs toPV svCells splice srcOf isNil St.ev St.evs St.fits St.put St.new St.upd St.frzs St.frz lk hset litOf vbuiltin vlen vbin vindex vfield vload rdc pvs capsOf Value.oneCell'
attribute [local simp] tsz3 tagg3 tbytes3 tint3 tzero3 tzero1_3 tsz4 tagg4 tbytes4 tbool4 tzero4 tzero1_4 tsz5 tagg5 tbytes5 tint5 tzero5 tzero1_5 tsz9 tagg9 tbytes9 tstr9 tzero9 tzero1_9 tsz22 tagg22 tel22 tbytes22 tzero22 tzero1_22 tsz23 tagg23 tel23 tbytes23 tzero23 tzero1_23 tsz24 tagg24 tel24 tbytes24 tzero24 tzero1_24 tsz25 tagg25 tbytes25 tzero25 tzero1_25 tsz29 tagg29 tel29 tbytes29 tzero29 tzero1_29 tsz30 tagg30 tel30 tbytes30 tzero30 tzero1_30 tsz32 tagg32 tbytes32 tzero32 foff32_0 foff32_1 foff32_2 foff32_3 foff32_4 foff32_5 foff32_6 foff32_7 foff32_8 foff32_9 tsz33 tagg33 tel33 tbytes33 tzero33 tzero1_33 tsz34 tagg34 tbytes34 tint34 tzero34 tzero1_34 tsz38 tagg38 tbytes38 tzero38 foff38_0 foff38_1 foff38_2 tsz47 tagg47 tel47 tbytes47 tzero47 tzero1_47 tsz52 tagg52 tel52 tbytes52 tzero52 tzero1_52 tsz54 tagg54 tbytes54 tzero54 foff54_0 foff54_1 foff54_2 foff54_3 foff54_4 foff54_5 tsz79 tagg79 tbytes79 tzero79 foff79_0 foff79_1 foff79_2 tsz117 tagg117 tbytes117 tzero117 foff117_0 foff117_1 foff117_2 tsz119 tagg119 tbytes119 tzero119 foff119_0 foff119_1 tsz121 tagg121 tbytes121 tzero121 foff121_0 foff121_1 foff121_2 foff121_3 tsz129 tagg129 tbytes129 tzero129 tzero1_129 tsz130 tagg130 tbytes130 tzero130 tzero1_130 tsz132 tagg132 tbytes132 tzero132 tzero1_132 tsz206 tagg206 tbytes206 tzero206 tzero1_206 mtype206 tsz208 tagg208 tbytes208 tsz217 tagg217 tel217 tbytes217 tzero217 tzero1_217 tsz220 tagg220 tbytes220 tzero220 foff220_0 foff220_1 tsz235 tagg235 tel235 tbytes235 tzero235 tzero1_235 tsz256 tagg256 tbytes256 tzero256 tzero1_256 mtype256 tsz351 tagg351 tbytes351 tzero351 tsz2 tagg2 tbytes2 tint2 tzero2 tzero1_2 tsz291 tagg291 tbytes291 tint291 tzero291 tzero1_291 sized32 places32_0 places32_1 places32_2 places32_3 places32_4 places32_5 places32_6 places32_7 places32_8 places32_9 sized38 places38_0 places38_1 places38_2 sized54 places54_0 places54_1 places54_2 places54_3 places54_4 places54_5 sized79 places79_0 places79_1 places79_2 sized117 places117_0 places117_1 places117_2 sized119 places119_0 places119_1 sized121 places121_0 places121_1 places121_2 places121_3 sized220 places220_0 places220_1
section
attribute [local simp] V.c V.z Sd.c Tst.c Fx.c Rl.c Fc.c Gr.c wrap1f take_map_len take_map_len1 wrap1 wrap2 wrap3
theorem enters297 : Enters Tryz.prog 297 := enters_mk Tryz.func297 (by kernel_rfl) (by kernel_rfl)
theorem enters288 : Enters Tryz.prog 288 := enters_mk Tryz.func288 (by kernel_rfl) (by kernel_rfl)
theorem enters254 : Enters Tryz.prog 254 := enters_mk Tryz.func254 (by kernel_rfl) (by kernel_rfl)
theorem enters196 : Enters Tryz.prog 196 := enters_mk Tryz.func196 (by kernel_rfl) (by kernel_rfl)
theorem enters142 : Enters Tryz.prog 142 := enters_mk Tryz.func142 (by kernel_rfl) (by kernel_rfl)
theorem und9 : Tryz.prog.underlying 9 = some .string := by kernel_rfl
theorem und235 : Tryz.prog.underlying 235 = some (.slice 5) := by kernel_rfl
theorem und5 : Tryz.prog.underlying 5 = some (.int .u8) := by kernel_rfl
theorem dig1 : ∀ x : Nat, x < 10 → (⟨#[48, 49, 50, 51, 52, 53, 54, 55, 56, 57, 97, 98, 99, 100, 101, 102, 103, 104, 105, 106, 107, 108, 109, 110, 111, 112, 113, 114, 115, 116, 117, 118, 119, 120, 121, 122]⟩ : ByteArray).extract x (x + 1) = ⟨(dec x).toArray⟩ := by decide +kernel
theorem dig1s : (⟨#[48, 49, 50, 51, 52, 53, 54, 55, 56, 57, 97, 98, 99, 100, 101, 102, 103, 104, 105, 106, 107, 108, 109, 110, 111, 112, 113, 114, 115, 116, 117, 118, 119, 120, 121, 122]⟩ : ByteArray).size = 36 := rfl
theorem dig2 : ∀ x : Nat, x < 100 → ¬ x < 10 → (⟨#[48, 48, 48, 49, 48, 50, 48, 51, 48, 52, 48, 53, 48, 54, 48, 55, 48, 56, 48, 57, 49, 48, 49, 49, 49, 50, 49, 51, 49, 52, 49, 53, 49, 54, 49, 55, 49, 56, 49, 57, 50, 48, 50, 49, 50, 50, 50, 51, 50, 52, 50, 53, 50, 54, 50, 55, 50, 56, 50, 57, 51, 48, 51, 49, 51, 50, 51, 51, 51, 52, 51, 53, 51, 54, 51, 55, 51, 56, 51, 57, 52, 48, 52, 49, 52, 50, 52, 51, 52, 52, 52, 53, 52, 54, 52, 55, 52, 56, 52, 57, 53, 48, 53, 49, 53, 50, 53, 51, 53, 52, 53, 53, 53, 54, 53, 55, 53, 56, 53, 57, 54, 48, 54, 49, 54, 50, 54, 51, 54, 52, 54, 53, 54, 54, 54, 55, 54, 56, 54, 57, 55, 48, 55, 49, 55, 50, 55, 51, 55, 52, 55, 53, 55, 54, 55, 55, 55, 56, 55, 57, 56, 48, 56, 49, 56, 50, 56, 51, 56, 52, 56, 53, 56, 54, 56, 55, 56, 56, 56, 57, 57, 48, 57, 49, 57, 50, 57, 51, 57, 52, 57, 53, 57, 54, 57, 55, 57, 56, 57, 57]⟩ : ByteArray).extract (x * 2) (x * 2 + 2) = ⟨(dec x).toArray⟩ := by decide +kernel
theorem dig2s : (⟨#[48, 48, 48, 49, 48, 50, 48, 51, 48, 52, 48, 53, 48, 54, 48, 55, 48, 56, 48, 57, 49, 48, 49, 49, 49, 50, 49, 51, 49, 52, 49, 53, 49, 54, 49, 55, 49, 56, 49, 57, 50, 48, 50, 49, 50, 50, 50, 51, 50, 52, 50, 53, 50, 54, 50, 55, 50, 56, 50, 57, 51, 48, 51, 49, 51, 50, 51, 51, 51, 52, 51, 53, 51, 54, 51, 55, 51, 56, 51, 57, 52, 48, 52, 49, 52, 50, 52, 51, 52, 52, 52, 53, 52, 54, 52, 55, 52, 56, 52, 57, 53, 48, 53, 49, 53, 50, 53, 51, 53, 52, 53, 53, 53, 54, 53, 55, 53, 56, 53, 57, 54, 48, 54, 49, 54, 50, 54, 51, 54, 52, 54, 53, 54, 54, 54, 55, 54, 56, 54, 57, 55, 48, 55, 49, 55, 50, 55, 51, 55, 52, 55, 53, 55, 54, 55, 55, 55, 56, 55, 57, 56, 48, 56, 49, 56, 50, 56, 51, 56, 52, 56, 53, 56, 54, 56, 55, 56, 56, 56, 57, 57, 48, 57, 49, 57, 50, 57, 51, 57, 52, 57, 53, 57, 54, 57, 55, 57, 56, 57, 57]⟩ : ByteArray).size = 200 := rfl
theorem small_ok (x : Nat) (hx : x < 100) : CC Tryz.prog 297 [sint x] (fun sv => sv = .pv (.lit (.string ⟨(dec x).toArray⟩))) := by
  refine cc_of_pw Tryz.func297 rfl enters297 Tryz.ntmps297 (by simp) (pw_of_pws ?_)
  by_cases h : x < 10
  · have hw := wrap64_id (n := (x : Int) + 1) (by omega)
    have h10 : (x : Int) < 10 := by omega
    have h0 : (0 : Int) ≤ (x : Int) + 1 := by omega
    have h36 : x + 1 ≤ 36 := by omega
    repeat' (first | with_reducible refine pws_seq ?_ | ((with_reducible refine pws_regk fun K' S hK' hS => ?_); simp [argSlots, dig1s, dig1, *]) | ((with_reducible refine Goes.go hK' ?_); clear hK' hS; clear K' S) | ((with_reducible refine pws_true ?_ ?_); (· simp; done)) | with_reducible refine pws_ret ?_)
    all_goals (refine finC_ret (vs := ?_) [] (by first | exact .inr rfl | exact .inl rfl) rfl ?_ ?_ ?_; rotate_left; (· simp [Tryz.results297, resL, resOf]; rfl); (· first | rfl | (simp [wrapRes, cv, SV.const, constL]; done)); (· first | (simp [wrapRes, cv, *]; done) | (simp [wrapRes, cv, *]; grind) | (simp [wrapRes, cv, *]; omega)))
  · obtain ⟨y, hy⟩ : ∃ y, y = x * 2 := ⟨_, rfl⟩
    have hw : IntKind.i64.wrap ((x : Int) * 2) = (y : Int) := by rw [wrap64_id (by omega)]; omega
    have hw2 : IntKind.i64.wrap ((y : Int) + 2) = (y : Int) + 2 := wrap64_id (by omega)
    have h10 : ¬ (x : Int) < 10 := by omega
    have h0 : (0 : Int) ≤ (y : Int) := by omega
    have h02 : (0 : Int) ≤ (y : Int) + 2 := by omega
    have h36 : (y : Int) + 2 ≤ 200 := by omega
    have htn : ((y : Int) + 2).toNat = y + 2 := by omega
    have hyy : (y : Int) ≤ (y : Int) + 2 := by omega
    have h198 : y ≤ 198 := by omega
    have hd := dig2 x hx h
    rw [← hy] at hd
    clear hy
    repeat' (first | with_reducible refine pws_seq ?_ | with_reducible refine pws_skip ?_ | ((with_reducible refine pws_regk fun K' S hK' hS => ?_); simp [argSlots, dig2s, hd, *]) | ((with_reducible refine Goes.go hK' ?_); clear hK' hS; clear K' S) | ((with_reducible refine pws_false ?_ ?_); (· simp; done)) | with_reducible refine pws_ret ?_)
    all_goals (refine finC_ret (vs := ?_) [] (by first | exact .inr rfl | exact .inl rfl) rfl ?_ ?_ ?_; rotate_left; (· simp [Tryz.results297, resL, resOf]; rfl); (· first | rfl | (simp [wrapRes, cv, SV.const, constL]; done)); (· first | (simp [wrapRes, cv, *]; done) | (simp [wrapRes, cv, *]; grind) | (simp [wrapRes, cv, *]; omega)))
theorem dec_len (x : Nat) : (dec x).length ≤ 2 := by unfold dec; split <;> simp
theorem strsize (l : List UInt8) : (⟨l.toArray⟩ : ByteArray).size = l.length := rfl
abbrev HN (id g : Nat) (l : List UInt8) : List (Nat × ABlk) := [(id, .arr 5 1 g false (bytesE l))]
theorem appendUint_ok (x : Nat) (hx : x < 100) (id g : Nat) (l : List UInt8) (hl : l.length ≤ 1000000) (nx : Nat) : PC Tryz.prog 288 [.loc 1 id g 0 l.length, .pv (.lit (.int .u64 x)), sint 10] nx (HN id g l) (fun sv nx' H' => sv = .loc 1 id (g + 1) 0 (l ++ dec x).length ∧ nx' = nx ∧ H' = HN id (g + 1) (l ++ dec x)) := by
  refine pc_of_pw' (fn := Tryz.f288) Tryz.func288 rfl enters288 Tryz.ntmps288 (by simp [capRefs]) (pw_of_pws ?_)
  have h100 : (x : Int) < 100 := by omega
  have hw := wrap64_id (n := (x : Int)) (by omega)
  have hdl := dec_len x
  repeat' (first | with_reducible refine pws_seq ?_ | ((with_reducible refine pws_regk fun K' S hK' hS => ?_); simp [argSlots, *]) | ((with_reducible refine Goes.go hK' ?_); clear hK' hS; clear K' S) | ((with_reducible refine GoesS.go hS ?_); clear hK' hS; clear K' S) | ((with_reducible refine pws_true ?_ ?_); (· simp; done)) | ((with_reducible refine pwl_callk (c := ?_) (x := ?_) (f := ?_) (svs := ?_) (cs := ?_) (Qr := ?_) true ?_ ?_ ?_ ?_ ?_ ?_ ?_ ?_ ?_); rotate_left 6; (· (simp [argSlots, *]; done)); (· rfl); (· rfl); (· (simp; with_reducible rfl)); (· (simp; with_reducible rfl)); (· first | (simp [bors, bor]; with_reducible rfl) | (simp [bors, bor, *]; with_reducible rfl)); (· rfl); (· ((with_reducible refine small_ok x hx))); (rintro sv hsv hsc; clear hsc; obtain rfl := hsv; refine ⟨(by first | (intro _; rfl) | (intro h; cases h)), ?_⟩; refine pwl_runk fun K' S hK' hS => ?_; simp [argSlots, *])))
  refine pwl_append_str (e := 5) (id := id) (g := g) (len := l.length) (str := ⟨(dec x).toArray⟩) (xs := bytesE l) rfl rfl und235 und9 tsz5 tzero1_5 tbytes5 (by simp) (by simp [lk]) (by simp) (by simp) (by rw [strsize]; omega) rfl ?_
  simp [hset, strsize]
  refine pwl_runk fun K' S hK' hS => ?_; simp [*]
  repeat' (first | ((with_reducible refine Goes.go hK' ?_); clear hK' hS; clear K' S) | with_reducible refine pws_ret ?_)
  refine finP_ret (vs := ?_) [] (.inr rfl) rfl ?_ ?_
  rotate_left
  · simp [Tryz.results288, resL, resOf]; rfl
  · simp [wrapRes, cv, toPV, lk]
theorem appendInt_ok (x : Nat) (hx : x < 100) (id g : Nat) (l : List UInt8) (hl : l.length ≤ 1000000) (nx : Nat) : PC Tryz.prog 254 [.loc 1 id g 0 l.length, sint x, sint 10] nx (HN id g l) (fun sv nx' H' => sv = .loc 1 id (g + 1) 0 (l ++ dec x).length ∧ nx' = nx ∧ H' = HN id (g + 1) (l ++ dec x)) := by
  refine pc_of_pw' (fn := Tryz.f254) Tryz.func254 rfl enters254 Tryz.ntmps254 (by simp [capRefs]) (pw_of_pws ?_)
  have h0 : ¬ (x : Int) < 0 := by omega
  have hw : IntKind.u64.wrap (x : Int) = x := by
    have hb : ((2 : Int) ^ 64) = 18446744073709551616 := by decide
    simp only [IntKind.wrap, IntKind.bits, IntKind.signed, hb]
    simp
    omega
  have hu := appendUint_ok x hx id g l hl nx
  repeat' (first | with_reducible refine pws_seq ?_ | with_reducible refine pws_skip ?_ | ((with_reducible refine pws_regk fun K' S hK' hS => ?_); simp [argSlots, *]) | ((with_reducible refine Goes.go hK' ?_); clear hK' hS; clear K' S) | ((with_reducible refine GoesS.go hS ?_); clear hK' hS; clear K' S) | ((with_reducible refine pws_false ?_ ?_); (· simp; done)))
  refine pwl_callpk (c := ?_) (x := ?_) (f := 288) (caps := []) (svs := [.loc 1 id g 0 l.length, .pv (.lit (.int .u64 x)), sint 10]) (own := []) (Hs := HN id g l) (Qr := _) ?_ ?_ ?_ ?_ ?_ ?_ (fun i b h => h) (fun i b h => by simp only [List.cons_append, List.nil_append, lk] at h ⊢; (repeat' split at h) <;> (try subst_vars) <;> first | (subst_vars; simp [*]; done) | (simp_all; done) | (simp_all; omega)) (hu) ?_; rotate_left 2; (· first | rfl | (simp [*]; done)); (· rfl); (· rfl); (· first | rfl | (simp; done)); (· first | rfl | (simp; done)); (· rfl); rintro sv nx' H' hq hn hd
  obtain ⟨rfl, rfl, rfl⟩ := hq
  refine pwl_runk fun K' S hK' hS => ?_; simp [*]
  repeat' (first | ((with_reducible refine Goes.go hK' ?_); clear hK' hS; clear K' S) | with_reducible refine pws_ret ?_)
  refine finP_ret (vs := ?_) [] (.inr rfl) rfl ?_ ?_
  rotate_left
  · simp [Tryz.results254, resL, resOf]; rfl
  · simp [wrapRes, cv, toPV, lk]
theorem appendIntS_ok (x : Nat) (hx : x < 100) (id g : Nat) (l : List UInt8) (hl : l.length ≤ 1000000) (nx : Nat) : PC Tryz.prog 196 [.loc 1 id g 0 l.length, sint x, sint 10] nx (HN id g l) (fun sv nx' H' => sv = .loc 1 id (g + 1) 0 (l ++ dec x).length ∧ nx' = nx ∧ H' = HN id (g + 1) (l ++ dec x)) := by
  refine pc_of_pw' (fn := Tryz.f196) Tryz.func196 rfl enters196 Tryz.ntmps196 (by simp [capRefs]) (pw_of_pws ?_)
  have hu := appendInt_ok x hx id g l hl nx
  repeat' (first | with_reducible refine pws_seq ?_ | ((with_reducible refine pws_regk fun K' S hK' hS => ?_); simp [argSlots, *]) | ((with_reducible refine Goes.go hK' ?_); clear hK' hS; clear K' S) | ((with_reducible refine GoesS.go hS ?_); clear hK' hS; clear K' S))
  refine pwl_callpk (c := ?_) (x := ?_) (f := 254) (caps := []) (svs := [.loc 1 id g 0 l.length, sint x, sint 10]) (own := []) (Hs := HN id g l) (Qr := _) ?_ ?_ ?_ ?_ ?_ ?_ (fun i b h => h) (fun i b h => by simp only [List.cons_append, List.nil_append, lk] at h ⊢; (repeat' split at h) <;> (try subst_vars) <;> first | (subst_vars; simp [*]; done) | (simp_all; done) | (simp_all; omega)) (hu) ?_; rotate_left 2; (· first | rfl | (simp [*]; done)); (· rfl); (· rfl); (· first | rfl | (simp; done)); (· first | rfl | (simp; done)); (· rfl); rintro sv nx' H' hq hn hd
  obtain ⟨rfl, rfl, rfl⟩ := hq
  refine pwl_runk fun K' S hK' hS => ?_; simp [*]
  repeat' (first | ((with_reducible refine Goes.go hK' ?_); clear hK' hS; clear K' S) | with_reducible refine pws_ret ?_)
  refine finP_ret (vs := ?_) [] (.inr rfl) rfl ?_ ?_
  rotate_left
  · simp [Tryz.results196, resL, resOf]; rfl
  · simp [wrapRes, cv, toPV, lk]
theorem nameL_take {s : List Int} {k : Nat} (h : k < s.length) : nameL (s.take (k + 1)) = nameL (s.take k) ++ dec s[k].toNat ++ [32] := by
  unfold nameL
  rw [List.take_succ_eq_append_getElem h, List.flatMap_append]
  simp
theorem nameL_len (s : List Int) : (nameL s).length ≤ s.length * 3 := by
  induction s with
  | nil => simp [nameL]
  | cons x s ih =>
    have e : nameL (x :: s) = dec x.toNat ++ [32] ++ nameL s := List.flatMap_cons
    rw [e]
    simp only [List.length_append, List.length_cons, List.length_nil]
    have := dec_len x.toNat
    omega
theorem name_ok (s : List Int) (hs : Small s) (hl : s.length ≤ 1000) : CC Tryz.prog 142 [.pv (.sl 1 (ints s))] (fun sv => sv = .pv (.lit (.string (nameB s)))) := by
  refine cc_of_pw Tryz.func142 rfl enters142 Tryz.ntmps142 (by simp) (pw_of_pws ?_)
  repeat' (first | with_reducible refine pws_seq ?_ | with_reducible refine pws_block ?_ | ((with_reducible refine pws_regk fun K' S hK' hS => ?_); simp [argSlots, *]) | ((with_reducible refine Goes.go hK' ?_); clear hK' hS; clear K' S))
  refine pws_ent (ent_adopts (v := 3) (t := 5) (es := 1) rfl (by decide)) ?_
  have hn0 : (nameL []).length = 0 := rfl
  refine pws_loop (α := { v : Nat × Nat × Nat // v.1 ≤ s.length }) (fun v => { n := 20, nx := v.1.2.2, s := [(8, sint v.1.1), (7, sint s.length), (6, .pv (.sl 1 (ints s))), (3, .loc 1 0 v.1.2.1 0 (nameL (s.take v.1.1)).length)], h := HN 0 v.1.2.1 (nameL (s.take v.1.1)), d := [] }) (fun v => s.length - v.1.1) (fun v => 1 ≤ v.1.2.2) ⟨(0, 0, 1), by simp⟩ (by simp) (ent_keep rfl rfl rfl (fun t sv h => SubL.get (by simp [SubL, *]) h) (fun i b h => h)) ?_
  rintro ⟨⟨k, g, nx1⟩, hk⟩ hn1 K hK
  simp only at hk hn1
  by_cases h1 : k < s.length
  · have hw := wrap64_id (n := (k : Int) + 1) (by omega)
    have hnl := nameL_take h1
    have hlen := nameL_len (s.take k)
    obtain ⟨x, hx⟩ : ∃ x : Nat, s[k] = x := ⟨s[k].toNat, by have := hs _ (List.getElem_mem h1); omega⟩
    have hx100 : x < 100 := by have := hs _ (List.getElem_mem h1); omega
    rw [hx, Int.toNat_natCast] at hnl
    have hap := appendIntS_ok x hx100 0 g (nameL (s.take k)) (by simp at hlen; omega) nx1
    have hdl := dec_len x
    simp at hlen
    generalize nameL (s.take k) = L at *
    have hML : (L ++ dec x).length = L.length + (dec x).length := List.length_append
    obtain ⟨M, hM⟩ : ∃ M, M = L ++ dec x := ⟨_, rfl⟩
    rw [← hM] at hnl hap hML
    have hb : M.length ≤ 140737488355327 := by omega
    clear hs hML hn0 hM
    have z1 : ¬ nx1 = 0 := by omega
    have z2 : ¬ 0 = nx1 := by omega
    repeat' (first | with_reducible refine pws_seq ?_ | with_reducible refine pws_skip ?_ | with_reducible refine pws_block ?_ | ((with_reducible refine pws_regk fun K' S hK' hS => ?_); simp [argSlots, *]) | ((with_reducible refine Goes.go hK' ?_); clear hK' hS; clear K' S) | ((with_reducible refine GoesS.go hS ?_); clear hK' hS; clear K' S) | ((with_reducible refine pws_true ?_ ?_); (· simp; done)))
    refine pwl_callpk (c := ?_) (x := ?_) (f := 196) (caps := []) (svs := [.loc 1 0 g 0 L.length, sint x, sint 10]) (own := []) (Hs := HN 0 g L) (Qr := _) ?_ ?_ ?_ ?_ ?_ ?_ (fun i b h => h) (fun i b h => by simp only [List.cons_append, List.nil_append, lk] at h ⊢; (repeat' split at h) <;> (try subst_vars) <;> first | (subst_vars; simp [*]; done) | (simp_all; done) | (simp_all; omega)) (hap) ?_; rotate_left 2; (· first | rfl | (simp [*]; done)); (· rfl); (· rfl); (· first | rfl | (simp; done)); (· first | rfl | (simp; done)); (· rfl); rintro sv nx' H' hq hn hd
    obtain ⟨rfl, rfl, rfl⟩ := hq
    clear hap
    refine pwl_runk fun K' S hK' hS => ?_; simp [*]
    repeat' (first | ((with_reducible refine pws_regk fun K' S hK' hS => ?_); simp [argSlots, *]) | ((with_reducible refine Goes.go hK' ?_); clear hK' hS; clear K' S) | with_reducible refine blk_normal ?_ | with_reducible refine thenQ_normal ?_ | with_reducible refine pws_nil ?_)
    refine hK _ ⟨(k + 1, g + 1 + 1, nx' + 1), by simp; omega⟩ (Ent.trans (ent_droph (by simp [lk, *])) (ent_keep rfl rfl rfl (fun t sv h => SubL.get (by simp [SubL, hnl, *]) h) (fun i b h => by simpa [hnl, bytesE] using h))) (by simp) (by simp; omega)
  · obtain rfl : k = s.length := by omega
    rw [List.take_length]
    repeat' (first | with_reducible refine pws_seq ?_ | ((with_reducible refine pws_regk fun K' S hK' hS => ?_); simp [argSlots, *]) | ((with_reducible refine Goes.go hK' ?_); clear hK' hS; clear K' S) | ((with_reducible refine GoesS.go hS ?_); clear hK' hS; clear K' S) | ((with_reducible refine pws_false ?_ ?_); (· simp; done)) | with_reducible refine blk_same ?_ | with_reducible refine thenQ_exit ?_ | with_reducible refine pws_exit ?_)
    refine pwl_b2s (e := 5) (nameL s) rfl rfl und235 und5 und9 (sx := .loc 1 0 g 0 (nameL s).length) rfl (by simp [srcOf, lk]) rfl ?_
    refine pwl_runk fun K' S hK' hS => ?_; simp [*]
    repeat' (first | ((with_reducible refine Goes.go hK' ?_); clear hK' hS; clear K' S) | with_reducible refine pws_ret ?_)
    all_goals (refine finC_ret (vs := ?_) [] (by first | exact .inr rfl | exact .inl rfl) rfl ?_ ?_ ?_; rotate_left; (· simp [Tryz.results142, resL, resOf]; rfl); (· first | rfl | (simp [wrapRes, cv, SV.const, constL]; done)); (· first | (simp [wrapRes, cv, *]; done) | (simp [wrapRes, cv, *]; grind) | (simp [wrapRes, cv, *]; omega)))
end
end Go.Proofs.T1
/- slices.SortFunc of sets by slices.Compare, as a call in a heap of named blocks. -/
namespace Go.Proofs
open Go.Shelf
def Tryz.laysSortFunc_ren : Go.Shelf.Ren := ⟨fun | 6 => 126 | 15 => 169 | 14 => 189 | 28 => 224 | 29 => 225 | 20 => 243 | 21 => 244 | 22 => 245 | 23 => 246 | 24 => 247 | 25 => 248 | 26 => 249 | 27 => 250 | 46 => 284 | 47 => 266 | 48 => 267 | 49 => 285 | 50 => 286 | 57 => 307 | n => n, fun | 22 => 33 | 24 => 24 | 25 => 163 | 3 => 3 | 39 => 229 | 0 => 0 | 53 => 267 | 55 => 291 | 4 => 4 | 46 => 283 | 45 => 282 | 50 => 287 | 5 => 5 | 9 => 9 | 66 => 314 | 70 => 318 | 76 => 355 | 77 => 356 | n => n, fun | n => n⟩
theorem Tryz.laysSortFunc : Go.Proofs.SlLaysF.n6 Tryz.prog Tryz.laysSortFunc_ren := {
  mixed := by kernel_rfl
  f6 := ⟨Tryz.f126.name, by decide, Tryz.func126.trans (congrArg some (by kernel_rfl))⟩
  f14 := ⟨Tryz.f189.name, by decide, Tryz.func189.trans (congrArg some (by kernel_rfl))⟩
  f15 := Tryz.func169.trans (congrArg some (by kernel_rfl))
  f20 := ⟨Tryz.f243.name, by decide, Tryz.func243.trans (congrArg some (by kernel_rfl))⟩
  f21 := ⟨Tryz.f244.name, by decide, Tryz.func244.trans (congrArg some (by kernel_rfl))⟩
  f22 := ⟨Tryz.f245.name, by decide, Tryz.func245.trans (congrArg some (by kernel_rfl))⟩
  f23 := ⟨Tryz.f246.name, by decide, Tryz.func246.trans (congrArg some (by kernel_rfl))⟩
  f24 := ⟨Tryz.f247.name, by decide, Tryz.func247.trans (congrArg some (by kernel_rfl))⟩
  f25 := ⟨Tryz.f248.name, by decide, Tryz.func248.trans (congrArg some (by kernel_rfl))⟩
  f26 := ⟨Tryz.f249.name, by decide, Tryz.func249.trans (congrArg some (by kernel_rfl))⟩
  f27 := ⟨Tryz.f250.name, by decide, Tryz.func250.trans (congrArg some (by kernel_rfl))⟩
  f28 := Tryz.func224.trans (congrArg some (by kernel_rfl))
  f29 := Tryz.func225.trans (congrArg some (by kernel_rfl))
  f46 := ⟨Tryz.f284.name, by decide, Tryz.func284.trans (congrArg some (by kernel_rfl))⟩
  f47 := Tryz.func266.trans (congrArg some (by kernel_rfl))
  f48 := Tryz.func267.trans (congrArg some (by kernel_rfl))
  f49 := ⟨Tryz.f285.name, by decide, Tryz.func285.trans (congrArg some (by kernel_rfl))⟩
  f50 := ⟨Tryz.f286.name, by decide, Tryz.func286.trans (congrArg some (by kernel_rfl))⟩
  f57 := ⟨Tryz.f307.name, by decide, Tryz.func307.trans (congrArg some (by kernel_rfl))⟩
  t0 := Tryz.underlying0
  a0 := Tryz.isAgg0
  z0 := Tryz.sizeOf0
  v0 := Tryz.zeroValue0
  t3 := Tryz.underlying3
  a3 := Tryz.isAgg3
  z3 := Tryz.sizeOf3
  v3 := Tryz.zeroValue3
  t4 := Tryz.underlying4
  a4 := Tryz.isAgg4
  z4 := Tryz.sizeOf4
  v4 := Tryz.zeroValue4
  t5 := Tryz.underlying5
  a5 := Tryz.isAgg5
  z5 := Tryz.sizeOf5
  v5 := Tryz.zeroValue5
  t9 := Tryz.underlying9
  a9 := Tryz.isAgg9
  z9 := Tryz.sizeOf9
  v9 := Tryz.zeroValue9
  t22 := Tryz.underlying33
  a22 := Tryz.isAgg33
  z22 := Tryz.sizeOf33
  v22 := Tryz.zeroValue33
  a24 := Tryz.isAgg24
  z24 := Tryz.sizeOf24
  t25 := Tryz.underlying163
  a25 := Tryz.isAgg163
  z25 := Tryz.sizeOf163
  v25 := Tryz.zeroValue163
  t39 := Tryz.underlying229
  a39 := Tryz.isAgg229
  z39 := Tryz.sizeOf229
  v39 := Tryz.zeroValue229
  t45 := Tryz.underlying282
  a45 := Tryz.isAgg282
  z45 := Tryz.sizeOf282
  v45 := Tryz.zeroValue282
  t46 := Tryz.underlying283
  a46 := Tryz.isAgg283
  z46 := Tryz.sizeOf283
  v46 := Tryz.zeroValue283
  t50 := Tryz.underlying287
  a50 := Tryz.isAgg287
  z50 := Tryz.sizeOf287
  v50 := Tryz.zeroValue287
  t53 := Tryz.underlying267
  a53 := Tryz.isAgg267
  z53 := Tryz.sizeOf267
  v53 := Tryz.zeroValue267
  t55 := Tryz.underlying291
  a55 := Tryz.isAgg291
  z55 := Tryz.sizeOf291
  v55 := Tryz.zeroValue291
  t66 := Tryz.underlying314
  a66 := Tryz.isAgg314
  z66 := Tryz.sizeOf314
  v66 := Tryz.zeroValue314
  t70 := Tryz.underlying318
  a70 := Tryz.isAgg318
  z70 := Tryz.sizeOf318
  v70 := Tryz.zeroValue318
  t76 := Tryz.underlying355
  a76 := Tryz.isAgg355
  z76 := Tryz.sizeOf355
  v76 := Tryz.zeroValue355
  t77 := Tryz.underlying356
  a77 := Tryz.isAgg356
  z77 := Tryz.sizeOf356
  v77 := Tryz.zeroValue356 }
end Go.Proofs
namespace Go.Vc
open Go.RowKit Go.Sort
variable {P : Program}
theorem grow_of {w w' : World} (h1 : w'.os = w.os) (h2 : w'.tape = w.tape) (h3 : w'.output = w.output) (h4 : w.drawn ≤ w'.drawn) (h5 : w.heap.size ≤ w'.heap.size) (h6 : ∀ k, k < w.heap.size → w'.heap[k]? = w.heap[k]?) :
    ∃ q os, w' = grow (w.drewN q) os := by
  refine ⟨w'.drawn - w.drawn, w'.heap.extract w.heap.size w'.heap.size, ?_⟩
  obtain ⟨h, t, d, o, p⟩ := w
  obtain ⟨h', t', d', o', p'⟩ := w'
  simp only at h1 h2 h3 h4 h5 h6
  subst h1 h2 h3
  simp only [grow, World.drewN, World.mk.injEq, and_true, true_and]
  refine ⟨?_, by omega⟩
  apply Array.ext_getElem?
  intro i
  by_cases hi : i < h.size
  · rw [h6 i hi, Array.getElem?_append_left hi]
  · rw [Array.getElem?_append_right (by omega), Array.getElem?_extract]
    have e : h.size + (i - h.size) = i := by omega
    rw [e]
    split
    · rfl
    · rw [Array.getElem?_eq_none (by omega)]
/-- A contract over data is a run that lays blocks and draws, and does nothing else. -/
theorem CC.callsG {f : Nat} {svs : List SV} {Q : SV → Prop} (h : CC P f svs Q) {args : Array Value} {W : World} (hl : args.toList.length = svs.length)
    (hs : ∀ (j : Nat) sv u, svs[j]? = some sv → args.toList[j]? = some u → Srel (Olds W) (fun _ _ => none) W sv u) :
    Calls P f args W fun e W' => ∃ v sv I φ, e = .returned v ∧ Q sv ∧ sv.const = true ∧ Srel I φ W' sv v ∧ ∃ q os, W' = grow (W.drewN q) os := by
  have := h.2 (Olds W) (fun _ _ => none) W args.toList (rh_empty fun _ _ h => h) hl hs
  refine CallsIn.calls (this.mono ?_) (fun k => by simp [Fence.room, FW])
  rintro e W' ⟨v, sv, nx', H', I', φ', rfl, ⟨hQ, hc⟩, hR, _, hsr, hev⟩
  exact ⟨v, sv, I', φ', rfl, hQ, hc, hsr, grow_of hev.os hev.tape hev.output hev.drawn hev.size fun k hk => hev.frm k hk fun ⟨i, blk, hl, _⟩ => by cases hl⟩
end Go.Vc
namespace Go.Proofs.T1
open Go.Vc Go.Sort Go.Shelf Go.RowKit
/-- A set and a value that it reads as. -/
def SetV (I : Nat → Nat → Prop) (w : World) : Type := { q : Value × List Int // Rep I w (.sl 1 (ints q.2)) q.1 }
instance setVInh (I : Nat → Nat → Prop) (w : World) : Inhabited (SetV I w) := ⟨⟨(.slice none 0 0, []), Rep.nil 1⟩⟩
def SetV.enc {I : Nat → Nat → Prop} {w : World} (q : SetV I w) : Value := q.1.1
def SetV.cf {I : Nat → Nat → Prop} {w : World} (q r : SetV I w) : Int := lexCmp q.1.2 r.1.2
theorem SetV.lt {I : Nat → Nat → Prop} {w : World} (q r : SetV I w) : ltOf SetV.cf q r = lexLt q.1.2 r.1.2 := lexCmp_lt _ _
theorem SetV.swo {I : Nat → Nat → Prop} {w : World} : SWO (ltOf (SetV.cf (I := I) (w := w))) where
  irrefl x := by rw [SetV.lt]; exact lexLt_irrefl _
  trans x y z h1 h2 := by rw [SetV.lt] at *; exact lexLt_trans _ _ _ h1 h2
  ntrans x y z h1 h2 := by rw [SetV.lt] at *; exact lexLe_trans h2 h1
theorem SetV.one {I : Nat → Nat → Prop} {w : World} : OneCell (SetV.enc (I := I) (w := w)) := fun q => by
  obtain ⟨⟨v, l⟩, h⟩ := q
  cases h
  rfl
theorem psets_get2 {zs : List (List Int)} {k j : Nat} {p : PV} (h : get2 (psets zs) k j = some p) : ∃ hk : k < zs.length, p = .sl 1 (ints zs[k]) := by
  obtain ⟨y, hy, hj⟩ := Option.bind_eq_some_iff.1 h
  rw [List.getElem?_map] at hy
  obtain ⟨z, hz, rfl⟩ := Option.map_eq_some_iff.1 hy
  obtain ⟨hk, rfl⟩ := List.getElem?_eq_some_iff.1 hz
  cases j with
  | zero => simp at hj; exact ⟨hk, hj.symm⟩
  | succ j => simp at hj
theorem sortWorld_old {α : Type} [Inhabited α] (enc : α → Value) (w : World) (b m : Nat) (dk : Array α) (os : Array Obj) {k : Nat} (hk : k < w.heap.size) (hne : k ≠ b) : (sortWorld enc w b 0 m dk os).heap[k]? = w.heap[k]? := by
  unfold sortWorld
  rw [heap_grow_old _ _ (by show k < (putRow enc _ _ _ _).heap.size; rw [size_putRow]; exact hk)]
  show (w.heap.modify b (onCells (putCells enc 0 dk)))[k]? = _
  rw [Array.getElem?_modify, if_neg (fun h => hne h.symm)]
theorem enters126 : Enters Tryz.prog 126 := enters_mk Tryz.func126 (by kernel_rfl) (by kernel_rfl)
theorem sortFunc_pc (id g ta : Nat) (zs : List (List Int)) (hz : 0 < zs.length) (hb : zs.length < 4611686018427387904) (nx : Nat) (H : List (Nat × ABlk)) (hl : lk id H = some (.arr ta 1 g false (psets zs))) :
    PC Tryz.prog 126 [.loc 1 id g 0 zs.length, .clos 115 []] nx H (fun _ nx' H' => nx' = nx ∧ H' = hset id (.arr ta 1 g false (psets (lsort zs))) H) := by
  refine ⟨enters126, fun I φ w vs hRH hvl hvs => ?_⟩
  match vs, hvl with
  | [v, cl], _ =>
    have hs := hvs 0 _ v rfl rfl
    have hcl := hvs 1 _ cl rfl rfl
    have hcl' : cl = .func (.func 115) #[] #[] := by
      cases hcl with
      | clos _ _ vs hl' _ =>
        obtain rfl : vs = [] := List.eq_nil_of_length_eq_zero hl'
        rfl
    subst hcl'
    clear hvs hcl
    generalize hn : zs.length = n at hs
    cases hs with
    | locNil => omega
    | loc _ _ _ _ _ b c A hφ hle hmx hA =>
      obtain rfl := hA (.inr rfl)
      obtain ⟨_, hx, hbk⟩ := hRH.blk _ _ hl
      rcases hbk with ⟨e, _⟩ | ⟨b', c', cs, e1, e2, e3, e4, e5, e6, _⟩
      · rw [hφ] at e; cases e
      rw [hφ] at e1
      cases e1
      obtain ⟨xs, hxl, hxs⟩ := pick_list (Φ := fun i (q : SetV I w) => (∃ hi : i < zs.length, q.1.2 = zs[i]) ∧ cs[i]? = some q.1.1) zs.length fun i hi => by
        have hg : get2 (psets zs) i 0 = some (.sl 1 (ints zs[i])) := by simp [get2, hi]
        obtain ⟨u, hu, hr⟩ := e6 i 0 _ hg
        simp only [Nat.mul_one, Nat.add_zero] at hu
        exact ⟨⟨(u, zs[i]), hr⟩, ⟨hi, rfl⟩, hu⟩
      have hxz : xs.map (fun q => q.1.2) = zs := by
        refine List.ext_getElem? fun i => ?_
        rw [List.getElem?_map]
        by_cases hi : i < xs.length
        · obtain ⟨⟨hi2, h1⟩, _⟩ := hxs i _ (List.getElem?_eq_getElem hi)
          rw [List.getElem?_eq_getElem hi, List.getElem?_eq_getElem hi2, Option.map_some, h1]
        · rw [List.getElem?_eq_none (by omega), List.getElem?_eq_none (by omega)]; rfl
      have hblk : b < w.heap.size := (Array.getElem?_eq_some_iff.1 e2).1
      have hnI : ∀ κ, ¬ I b κ := (hRH.mlt id _ b hl (by simp [mblk, hφ])).2
      have hH : Holds (SetV.enc (I := I) (w := w)) w b 0 xs.toArray := fun j hj => by
        have hj' : j < xs.length := by simpa using hj
        obtain ⟨_, h1⟩ := hxs j _ (List.getElem?_eq_getElem hj')
        refine ⟨?_, by simp [World.frozen?, e2]⟩
        rw [Nat.zero_add]
        simp only [World.cell?, e2]
        simp [h1, hj', SetV.enc]
      have hcmp : CmpLays1 Tryz.prog 115 #[] (SetV.enc (I := I) (w := w)) SetV.cf b 0 xs.toArray.size w := fun m os dk hdk x y => by
        have hmono : ∀ q : SetV I w, Rep (Olds (sortWorld SetV.enc w b 0 m dk os)) (sortWorld SetV.enc w b 0 m dk os) (.sl 1 (ints q.1.2)) q.1.1 := fun q =>
          q.2.mono (fun k κ hk => sortWorld_old _ _ _ _ _ _ (hRH.ilt k κ hk) fun e => hnI _ (by rw [← e]; exact hk)) fun k κ hk => Nat.lt_of_lt_of_le (hRH.ilt k κ hk) (by
            unfold sortWorld; rw [size_grow, size_putRow]; exact Nat.le_add_right _ _)
        refine ((compare_ok x.1.2 y.1.2).callsG (args := #[SetV.enc x, SetV.enc y] ++ #[]) rfl fun j sv u hj hu => ?_).mono ?_
        · match j with
          | 0 => simp at hj hu; subst hj hu; exact .pv _ _ (hmono x)
          | 1 => simp at hj hu; subst hj hu; exact .pv _ _ (hmono y)
          | j + 2 => simp at hj
        · rintro e w' ⟨v, sv, I', φ', rfl, rfl, _, hsr, q, os', rfl⟩
          have := hsr.lit_inv
          subst this
          exact ⟨rfl, q, os', rfl⟩
      have eg : ∀ args w, (callFunc 115 args).run Tryz.prog w = .ok (.enter 115 args) w := enters_of Tryz.func115 (by kernel_rfl) rfl
      have hcon := Any.slices_SortFunc Tryz.laysSortFunc (SetV.enc (I := I) (w := w)) SetV.one SetV.cf SetV.swo 115 #[] b 0 (c - 0) xs.toArray w eg hcmp hH hblk (by simp; omega)
      have hsz : xs.toArray.size = n := by simp [hxl, hn]
      rw [hsz] at hcon
      have hcon2 : Calls Tryz.prog 126 #[.slice (some ⟨b, 0 * 1, none⟩) n (c - 0), .func (.func 115) #[] #[]] w _ := hcon
      refine (callsIn_of_calls hcon2).mono ?_
      rintro e w' ⟨rfl, d', q, os, ⟨p1, p2, p3⟩, so, rfl⟩
      have hsz' : d'.size = n := by rw [p1, hsz]
      obtain ⟨l'⟩ := d'
      have hl' : l'.length = n := hsz'
      have hperm : l'.Perm xs := by
        simp only [List.extract_toArray, List.extract_eq_take_drop, Nat.sub_zero, List.drop_zero] at p3
        rw [List.take_of_length_le (by omega), List.take_of_length_le (by omega)] at p3
        exact p3
      have hls : l'.map (fun q => q.1.2) = lsort zs := by
        refine wsorted_ext ?_ lsort_sorted (((hperm.map _).trans (by rw [hxz])).trans lsort_perm.symm)
        rw [WSorted, List.pairwise_map]
        refine List.pairwise_iff_getElem.2 fun i j hi hj hij => ?_
        have := so i j (Nat.zero_le _) hij (by omega)
        rw [SetV.lt] at this
        simpa [hi, hj] using this
      have hlz : (lsort zs).length = n := by rw [← hls, List.length_map, hl']
      obtain ⟨g1, g2⟩ := rh_sorted (enc := SetV.enc (I := I) (w := w)) (n := q) (os := os) (ys := psets (lsort zs)) (d := l'.toArray) hRH hl hφ (by simp [hlz, hl']) (by simp [hlz, hn]) (fun y hy => by
        obtain ⟨z, _, rfl⟩ := List.mem_map.1 hy
        rfl) (fun k p hp => by
        obtain ⟨hk, rfl⟩ := psets_get2 hp
        have hk' : k < l'.length := by omega
        have h1 : l'.toArray[k]! = l'[k] := by simp [hk']
        rw [h1]
        have h2 : (lsort zs)[k] = l'[k].1.2 := by simp [← hls]
        rw [h2]
        exact l'[k].2)
      exact ⟨_, .tup [], nx, _, I, φ, rfl, ⟨rfl, rfl⟩, g1, Nat.le_refl _, .tup [] [] rfl (fun j sv u hj => by simp at hj), g2⟩
theorem sortFunc_nil_pc (id g nx : Nat) (H : List (Nat × ABlk)) : PC Tryz.prog 126 [.loc 1 id g 0 0, .clos 115 []] nx H (fun _ nx' H' => nx' = nx ∧ H' = H) := by
  refine ⟨enters126, fun I φ w vs hRH hvl hvs => ?_⟩
  match vs, hvl with
  | [v, cl], _ =>
    have hs := hvs 0 _ v rfl rfl
    have hv : ∃ A c, v = .slice A 0 c := by
      generalize hn : (0 : Nat) = n at hs
      cases hs with
      | locNil => exact ⟨_, _, rfl⟩
      | loc _ _ _ _ _ b c A hφ hle hmx hA => subst hn; exact ⟨_, _, rfl⟩
    obtain ⟨A, c, rfl⟩ := hv
    have hcon := AnyF.slices_SortFunc_none { Tryz.laysSortFunc with } A c cl w
    have hcon2 : Calls Tryz.prog 126 #[.slice A 0 c, cl] w _ := hcon
    refine (callsIn_of_calls hcon2).mono ?_
    rintro e w' ⟨rfl, rfl⟩
    exact ⟨_, .tup [], nx, _, I, φ, rfl, ⟨rfl, rfl⟩, hRH, Nat.le_refl _, .tup [] [] rfl (fun j sv u hj => by simp at hj), Ev.refl⟩
end Go.Proofs.T1
namespace Go.Vc
open Go.RowKit
variable {P : Program} {n0 : Nat} {r : Option Nat}
theorem pwl_next {ops : Array Oper} {o : Oper} {l : List Oper} {x : Operand} {it m since last clock : Nat} {seen : List Nat} {es : List (Nat × SV × SV)} {K : St → Prop} {st : St} (hg : gate ops st o = some true) (ho : o.op = .next x false) (hx : st.ev x = some (.itr it))
    (hi : lk it st.h = some (.mit m since seen last)) (hl : lk m st.h = some (.map clock es)) (hold : ∀ q ∈ es, q.1 < since) (hsl : since ≤ last) (hf : st.fits o.dst = true)
    (hK : ∀ (j : Nat) q, es[j]? = some q → q.1 ∉ seen → PWl P n0 r ops l K ((st.upd it (.mit m since (seen ++ [q.1]) clock)).put o.dst (.tup [.pv (.lit (.bool true)), q.2.1, q.2.2])))
    (hK' : (∀ q ∈ es, q.1 ∈ seen) → PWl P n0 r ops l K (st.put o.dst (.tup [.pv (.lit (.bool false))]))) : PWl P n0 r ops (o :: l) K st :=
  gate_true hg hf fun _ hK2 => pwo_next ho hx hi hl hold hsl hf (fun j q h1 h2 => hK2 _ (hK j q h1 h2)) fun h => hK2 _ (hK' h)
theorem pwl_entry {ops : Array Oper} {o : Oper} {l : List Oper} {x : Operand} {it m since last clock b j : Nat} {seen : List Nat} {es : List (Nat × SV × SV)} {kv vv : SV} {K : St → Prop} {st : St} (hg : gate ops st o = some true) (ho : o.op = .entry x) (hx : st.ev x = some (.itr it))
    (hi : lk it st.h = some (.mit m since (seen ++ [b]) last)) (hl : lk m st.h = some (.map clock es)) (hlast : last = clock) (hj : es[j]? = some (b, kv, vv)) (hnd : (es.map (·.1)).Nodup) (hf : st.fits o.dst = true)
    (hK : PWl P n0 r ops l K (st.put o.dst (.tup [kv, vv]))) : PWl P n0 r ops (o :: l) K st :=
  gate_true hg hf fun _ hK2 => pwo_entry ho hx hi hl hlast hj hnd hf (hK2 _ hK)
end Go.Vc
namespace Go.Proofs.T1
open Go.Vc
open Tryz
set_option linter.unusedSimpArgs false
set_option linter.unusedVariables false
set_option maxHeartbeats 4000000
set_option maxRecDepth 20000
attribute [local simp] runD_nil runD_cons runDO runDG runDV stabs stabO stabG runK_nil runK_cons runG_t runG_f runS_some runS_none gate dstOf step2 step1 vq vop vlook mput mfind isKeyB keq fin1 hbox halloc hstore hbuild hbuildSlice happend hmake vslice bound vbuild partsOf elemsOf inOrder topvs toPV svCells splice srcOf isNil St.ev St.evs St.fits St.put St.new St.upd St.frzs St.frz lk hset litOf vbuiltin vlen vbin vindex vfield vload rdc pvs capsOf Value.oneCell'
attribute [local simp] tsz3 tagg3 tbytes3 tint3 tzero3 tzero1_3 tsz4 tagg4 tbytes4 tbool4 tzero4 tzero1_4 tsz5 tagg5 tbytes5 tint5 tzero5 tzero1_5 tsz9 tagg9 tbytes9 tstr9 tzero9 tzero1_9 tsz22 tagg22 tel22 tbytes22 tzero22 tzero1_22 tsz23 tagg23 tel23 tbytes23 tzero23 tzero1_23 tsz24 tagg24 tel24 tbytes24 tzero24 tzero1_24 tsz25 tagg25 tbytes25 tzero25 tzero1_25 tsz29 tagg29 tel29 tbytes29 tzero29 tzero1_29 tsz30 tagg30 tel30 tbytes30 tzero30 tzero1_30 tsz32 tagg32 tbytes32 tzero32 foff32_0 foff32_1 foff32_2 foff32_3 foff32_4 foff32_5 foff32_6 foff32_7 foff32_8 foff32_9 tsz33 tagg33 tel33 tbytes33 tzero33 tzero1_33 tsz34 tagg34 tbytes34 tint34 tzero34 tzero1_34 tsz38 tagg38 tbytes38 tzero38 foff38_0 foff38_1 foff38_2 tsz47 tagg47 tel47 tbytes47 tzero47 tzero1_47 tsz52 tagg52 tel52 tbytes52 tzero52 tzero1_52 tsz54 tagg54 tbytes54 tzero54 foff54_0 foff54_1 foff54_2 foff54_3 foff54_4 foff54_5 tsz79 tagg79 tbytes79 tzero79 foff79_0 foff79_1 foff79_2 tsz117 tagg117 tbytes117 tzero117 foff117_0 foff117_1 foff117_2 tsz119 tagg119 tbytes119 tzero119 foff119_0 foff119_1 tsz121 tagg121 tbytes121 tzero121 foff121_0 foff121_1 foff121_2 foff121_3 tsz129 tagg129 tbytes129 tzero129 tzero1_129 tsz130 tagg130 tbytes130 tzero130 tzero1_130 tsz132 tagg132 tbytes132 tzero132 tzero1_132 tsz206 tagg206 tbytes206 tzero206 tzero1_206 mtype206 tsz208 tagg208 tbytes208 tsz217 tagg217 tel217 tbytes217 tzero217 tzero1_217 tsz220 tagg220 tbytes220 tzero220 foff220_0 foff220_1 tsz235 tagg235 tel235 tbytes235 tzero235 tzero1_235 tsz256 tagg256 tbytes256 tzero256 tzero1_256 mtype256 tsz351 tagg351 tbytes351 tzero351 tsz2 tagg2 tbytes2 tint2 tzero2 tzero1_2 tsz291 tagg291 tbytes291 tint291 tzero291 tzero1_291 sized32 places32_0 places32_1 places32_2 places32_3 places32_4 places32_5 places32_6 places32_7 places32_8 places32_9 sized38 places38_0 places38_1 places38_2 sized54 places54_0 places54_1 places54_2 places54_3 places54_4 places54_5 sized79 places79_0 places79_1 places79_2 sized117 places117_0 places117_1 places117_2 sized119 places119_0 places119_1 sized121 places121_0 places121_1 places121_2 places121_3 sized220 places220_0 places220_1
section
attribute [local simp] V.c V.z Sd.c Tst.c Fx.c Rl.c Fc.c Gr.c wrap1f take_map_len take_map_len1 wrap1 wrap2 wrap3
theorem enters81 : Enters Tryz.prog 81 := enters_mk Tryz.func81 (by kernel_rfl) (by kernel_rfl)
abbrev mapB (l : List (List Int)) : ABlk := .map (ddF l).length (mentsF 0 (ddF l))
/-- What is handed on so far. -/
def MinC (sets : List (List Int)) (p : Nat) (Hc : List (Nat × ABlk)) (blk : ABlk) (ys : List SV) (nx' : Nat) (H' : List (Nat × ABlk)) : Prop :=
  H' = (p + 3, blk) :: (p + 2, .dfr true) :: (p + 1, .box [.mp p]) :: (p, mapB (sets.take ys.length)) :: Hc ∧ p + 4 ≤ nx'
theorem ys_at {sets : List (List Int)} {ys zs : List SV} {x : SV} (h : sets.map stV = ys ++ x :: zs) : ∃ hk : ys.length < sets.length, x = stV sets[ys.length] := by
  have hlen : ys.length < sets.length := by
    have := congrArg List.length h
    simp at this
    omega
  refine ⟨hlen, ?_⟩
  have h2 : (sets.map stV)[ys.length]? = (ys ++ x :: zs)[ys.length]? := by rw [h]
  rw [List.getElem?_map, List.getElem?_eq_getElem hlen, List.getElem?_append_right (Nat.le_refl _)] at h2
  simp at h2
  exact h2.symm
theorem mentsF_snoc {l : List (List Int)} {s : List Int} (h : s ∉ l) : mentsF 0 (ddA l s) = mentsF 0 l ++ [(l.length, nmV s, stV s)] := by
  rw [ddA, if_neg h, mentsF_append]
  simp [mentsF]
theorem ments_set {l : List (List Int)} {s : List Int} {j : Nat} (h : l[j]? = some s) : (mentsF 0 l)[j]? = some (j, nmV s, stV s) ∧ (mentsF 0 l).set j (j, nmV s, stV s) = mentsF 0 l := by
  have hg : (mentsF 0 l)[j]? = some (j, nmV s, stV s) := by rw [mentsF_get, h]; simp
  refine ⟨hg, ?_⟩
  have he := (List.getElem?_eq_some_iff.1 hg).2
  rw [← he]
  exact List.set_getElem_self _
theorem shl_small : ∀ n : Nat, n < 4 → IntKind.i64.wrap (2 ^ min n IntKind.i64.bits) = ((2 ^ n : Nat) : Int) := by decide
theorem shr_small : ∀ b : Nat, b < 8 → ∀ i : Nat, i < 3 → Int.fdiv (b : Int) (2 ^ min i IntKind.i64.bits) = ((b / 2 ^ i : Nat) : Int) := by decide
theorem and_small : ∀ m : Nat, m < 8 → IntKind.i64.wrap ((m % 2 ^ IntKind.i64.bits &&& 1 % 2 ^ IntKind.i64.bits : Nat) : Int) = ((m % 2 : Nat) : Int) := by decide
theorem minimal_pc (gf : Nat) (caps : List (Nat × Nat)) (own : List (Nat × ABlk)) (sets : List (List Int)) (hIt : ItC Tryz.prog gf caps own (fun _ => True) (sets.map stV)) (hsm : ∀ s ∈ sets, Small s) (h3 : ∀ s ∈ sets, s.length ≤ 3) (hln : (ddF sets).length ≤ 1000000) (nx : Nat) (Hc : List (Nat × ABlk)) (hdis : disj own Hc) :
    PC Tryz.prog 81 [.clos gf caps] nx (own ++ Hc) (fun sv _ H' => sv = .pv (.sl 1 (psets (minL sets))) ∧ H' = Hc) := by
  refine PC.dom enters81 fun hdom => ?_
  have hown : ∀ i, nx ≤ i → lk i own = none := fun i hi => by
    cases hx : lk i own with
    | none => rfl
    | some b => have := hdom i b (lk_append_left hx); omega
  have hHc : ∀ i, nx ≤ i → lk i Hc = none := fun i hi => by
    cases hx : lk i Hc with
    | none => rfl
    | some b => have := hdom i b (by rw [lk_app, hown i hi, hx]; rfl); omega
  clear hdom
  refine PC.drop (Q := fun sv nx' H2 => sv = .pv (.sl 1 (psets (minL sets))) ∧ ∃ b x y z, H2 = (nx + 2, b) :: (nx + 1, x) :: (nx, y) :: z ∧ z = Hc) ?_ ?_
  rotate_left
  · rintro sv nx' _ ⟨h1, b, x, y, z, rfl, rfl⟩
    exact ⟨_, ⟨h1, rfl⟩, fun i b hl => lk_skip (by simp only [lk]; rw [if_neg (by omega), if_neg (by omega)]; exact hHc _ (by omega)) (lk_skip (by simp only [lk]; rw [if_neg (by omega)]; exact hHc _ (by omega)) (lk_skip (hHc _ (by omega)) hl))⟩
  refine pc_of_pw' (fn := Tryz.f81) Tryz.func81 rfl enters81 Tryz.ntmps81 (by simp [capRefs]) (pw_of_pws ?_)
  repeat' (first | with_reducible refine pws_seq ?_ | with_reducible refine pws_block ?_ | ((with_reducible refine pws_regk fun K' S hK' hS => ?_); simp [argSlots, capRefs, *]) | ((with_reducible refine Goes.go hK' ?_); clear hK' hS; clear K' S))
  refine pws_ent (st' := { n := 69, nx := nx + 2, s := [(16, .clos gf caps), (3, .ref (nx + 1) 0)], h := own ++ ((nx + 1, .box [.mp nx]) :: (nx, .map 0 []) :: Hc), d := [] }) (ent_keep rfl rfl rfl (fun t sv h => SubL.get (by simp [SubL, *]) h) (fun i b h => ?_)) ?_
  · rcases lk_append_cases h with h | ⟨h', h⟩
    · have hi : i < nx := by
        rcases Nat.lt_or_ge i nx with hi | hi
        · exact hi
        · rw [hown i hi] at h; cases h
      simp only [lk]
      rw [if_neg (by omega), if_neg (by omega)]
      exact lk_append_left h
    · simp only [lk] at h ⊢
      split at h
      · rename_i e; rw [if_pos e]; exact h
      · rename_i e
        rw [if_neg e]
        split at h
        · rename_i e; rw [if_pos e]; exact h
        · rename_i e; rw [if_neg e, lk_append_right h']; exact h
  refine pws_it_outer (own := own) (Hc := (nx + 1, .box [.mp nx]) :: (nx, .map 0 []) :: Hc) (MinC sets nx Hc) (fun _ _ _ _ => False) rfl hIt (fun i b h => h) ?_ (fun _ _ _ _ => trivial) ?_ ?_ ?_ ?_ ?_
  · intro i b hl
    have hi : i < nx := by
      rcases Nat.lt_or_ge i nx with hi | hi
      · exact hi
      · rw [hown i hi] at hl; cases hl
    simp only [lk]
    rw [if_neg (by omega), if_neg (by omega)]
    exact hdis i b hl
  · rintro ys x zs hsp nx2 _ ⟨rfl, hn2⟩
    obtain ⟨hk, rfl⟩ := ys_at hsp
    have hyl : ∀ z : SV, (ys ++ [z]).length = ys.length + 1 := fun z => by simp
    generalize ys.length = k at *
    have hm : ∀ t ∈ ddF (sets.take k), Small t := fun t ht => hsm t (List.mem_of_mem_take (mem_ddF.1 ht))
    have hs : Small sets[k] := hsm _ (List.getElem_mem (by omega))
    have hl3 : sets[k].length ≤ 1000 := Nat.le_trans (h3 _ (List.getElem_mem (by omega))) (by omega)
    have hks : ddF (sets.take (k + 1)) = ddA (ddF (sets.take k)) sets[k] := by
      rw [List.take_succ_eq_append_getElem (by omega), ddF_snoc]
    have hpm := mput_ments hs hm
    have hnm := name_ok _ hs hl3
    refine yc_of_pw (L := nx + 3) (if_pos rfl) rfl (by simp) (pw_of_pws ?_)
    simp [putAll]
    repeat' (first | ((with_reducible refine pws_regk fun K' S hK' hS => ?_); simp [argSlots, *]) | ((with_reducible refine Goes.go hK' ?_); clear hK' hS; clear K' S) | with_reducible refine pws_nil ?_)
    refine ⟨rfl, by simp [lk], ?_⟩
    refine pw_of_pws ?_
    simp [St.upd, hset, lk]
    by_cases hin : sets[k] ∈ ddF (sets.take k)
    · rcases mfind_ments hs (l := ddF (sets.take k)) (k := 0) (i := 0) hm with ⟨h1, _⟩ | ⟨j', hj', hmf⟩
      · exact absurd hin h1
      obtain ⟨q1, q2⟩ := ments_set hj'
      rw [Nat.zero_add] at hmf
      have hde : ddA (ddF (sets.take k)) sets[k] = ddF (sets.take k) := if_pos hin
      rw [hde] at hks
      clear hpm hsp hin hde hj'
      simp only [mapB] at *
      generalize hE : mentsF 0 (ddF (sets.take k)) = E at *
      repeat' (first | with_reducible refine pws_block ?_ | ((with_reducible refine Goes.go hK' ?_); clear hK' hS; clear K' S) | with_reducible refine blk_normal ?_ | with_reducible refine pws_nil ?_ | ((with_reducible refine pws_drawk [2, 4] [0, 1, 3, 2, 4] [] ?_ fun K' S hK' hS => ?_); (· decide +kernel); simp [argSlots, *]) | ((with_reducible refine GoesD.go hS ?_); clear hK' hS; clear K' S) | ((with_reducible refine pwd_callk (eff := [2, 4]) (i := 2) (c := [3, 1, 0]) (c' := [3, 0]) (o := ?_) (cl := ?_) (x := ?_) (f := ?_) (svs := ?_) (cs := ?_) (Qr := ?_) true ?_ ?_ ?_ ?_ ?_ ?_ ?_ ?_ ?_ ?_ ?_ ?_ ?_); rotate_left 7; (· rfl); (· rfl); (· (simp [argSlots, *]; done)); (· (simp [argSlots, *]; done)); (· decide +kernel); (· rfl); (· rfl); (· (simp; with_reducible rfl)); (· (simp; with_reducible rfl)); (· first | (simp [bors, bor]; with_reducible rfl) | (simp [bors, bor, *]; with_reducible rfl)); (· rfl); (· ((with_reducible refine hnm))); (rintro sv hsv hsc; clear hsc; obtain rfl := hsv; refine ⟨(by first | (intro _; rfl) | (intro h; cases h)), ?_⟩; refine pwd_runk fun K' S hK' hS => ?_; simp [argSlots, *])) | ((with_reducible refine pwd_step2 (eff := [2, 4]) (i := 4) (c := [3, 0]) (c' := []) (o := ?_) (st' := ?_) ?_ ?_ ?_ ?_ ?_ ?_ ?_); rotate_left 2; (· rfl); (· rfl); (· (simp [argSlots, *]; done)); (· (simp [argSlots, *]; done)); (· decide +kernel); (· (simp [argSlots, *]; with_reducible rfl)); refine pwd_runk fun K' S hK' hS => ?_; simp [argSlots, *]))
      refine ⟨by simp [lk], .inl ⟨rfl, ⟨by simp [hset, hyl, hks, hE], by simp; omega⟩⟩⟩
    · rcases mfind_ments hs (l := ddF (sets.take k)) (k := 0) (i := 0) hm with ⟨_, hmf⟩ | ⟨j', hj', _⟩
      rotate_left
      · exact absurd (List.mem_of_getElem? hj') hin
      have hsn := mentsF_snoc hin
      have hde : (ddA (ddF (sets.take k)) sets[k]).length = (ddF (sets.take k)).length + 1 := by rw [ddA, if_neg hin]; simp
      rw [← hks] at hsn hde
      clear hpm hsp hin hks
      simp only [mapB] at *
      generalize hE : mentsF 0 (ddF (sets.take k)) = E at *
      repeat' (first | with_reducible refine pws_block ?_ | ((with_reducible refine Goes.go hK' ?_); clear hK' hS; clear K' S) | with_reducible refine blk_normal ?_ | with_reducible refine pws_nil ?_ | ((with_reducible refine pws_drawk [2, 4] [0, 1, 3, 2, 4] [] ?_ fun K' S hK' hS => ?_); (· decide +kernel); simp [argSlots, *]) | ((with_reducible refine GoesD.go hS ?_); clear hK' hS; clear K' S) | ((with_reducible refine pwd_callk (eff := [2, 4]) (i := 2) (c := [3, 1, 0]) (c' := [3, 0]) (o := ?_) (cl := ?_) (x := ?_) (f := ?_) (svs := ?_) (cs := ?_) (Qr := ?_) true ?_ ?_ ?_ ?_ ?_ ?_ ?_ ?_ ?_ ?_ ?_ ?_ ?_); rotate_left 7; (· rfl); (· rfl); (· (simp [argSlots, *]; done)); (· (simp [argSlots, *]; done)); (· decide +kernel); (· rfl); (· rfl); (· (simp; with_reducible rfl)); (· (simp; with_reducible rfl)); (· first | (simp [bors, bor]; with_reducible rfl) | (simp [bors, bor, *]; with_reducible rfl)); (· rfl); (· ((with_reducible refine hnm))); (rintro sv hsv hsc; clear hsc; obtain rfl := hsv; refine ⟨(by first | (intro _; rfl) | (intro h; cases h)), ?_⟩; refine pwd_runk fun K' S hK' hS => ?_; simp [argSlots, *])) | ((with_reducible refine pwd_step2 (eff := [2, 4]) (i := 4) (c := [3, 0]) (c' := []) (o := ?_) (st' := ?_) ?_ ?_ ?_ ?_ ?_ ?_ ?_); rotate_left 2; (· rfl); (· rfl); (· (simp [argSlots, *]; done)); (· (simp [argSlots, *]; done)); (· decide +kernel); (· (simp [argSlots, *]; with_reducible rfl)); refine pwd_runk fun K' S hK' hS => ?_; simp [argSlots, *]))
      refine ⟨by simp [lk], .inl ⟨rfl, ⟨by simp [hset, hyl, hsn, hde], by simp; omega⟩⟩⟩
  · rintro ys nx2 nx3 _ ⟨rfl, hn2⟩ hle
    exact ⟨rfl, by omega⟩
  · exact ⟨rfl, by simp⟩
  · rintro sv nx2 _ ⟨rfl, hn2⟩
    refine ⟨.ready, none, if_pos rfl, by decide, ?_⟩
    simp [hset]
    refine thenQ_normal ?_
    clear hIt hdis hown
    have hlt : ∀ q ∈ mentsF 0 (ddF sets), q.1 < (ddF sets).length := fun q hq => by
      have : q.1 ∈ (mentsF 0 (ddF sets)).map (·.1) := List.mem_map.2 ⟨q, hq, rfl⟩
      rw [mentsF_fst] at this
      simpa using this
    have hmn := mentsF_nodup (ddF sets)
    have hm : ∀ t ∈ ddF sets, Small t := fun t ht => hsm t (mem_ddF.1 ht)
    refine pws_ent (st' := { n := 69, nx := nx2, s := [(3, .ref (nx + 1) 0)], h := (nx + 2, .dfr true) :: (nx + 1, .box [.mp nx]) :: (nx, .map (ddF sets).length (mentsF 0 (ddF sets))) :: Hc, d := [nx + 2] }) (ent_keep rfl rfl rfl (fun t sv h => SubL.get (by simp [SubL, *]) h) (fun i b h => lk_skip (by simp only [lk]; rw [if_neg (by omega), if_neg (by omega), if_neg (by omega)]; exact hHc _ (by omega)) h)) ?_
    have ne_nx2_nx : ¬ nx2 = nx := by omega
    have ne_nx2_nx' : ¬ nx = nx2 := by omega
    have ne_nx2_nx___1 : ¬ nx2 = nx + 1 := by omega
    have ne_nx2_nx___1' : ¬ nx + 1 = nx2 := by omega
    have ne_nx2_nx___2 : ¬ nx2 = nx + 2 := by omega
    have ne_nx2_nx___2' : ¬ nx + 2 = nx2 := by omega
    have ne_nx2___1_nx : ¬ nx2 + 1 = nx := by omega
    have ne_nx2___1_nx' : ¬ nx = nx2 + 1 := by omega
    have ne_nx2___1_nx___1 : ¬ nx2 + 1 = nx + 1 := by omega
    have ne_nx2___1_nx___1' : ¬ nx + 1 = nx2 + 1 := by omega
    have ne_nx2___1_nx___2 : ¬ nx2 + 1 = nx + 2 := by omega
    have ne_nx2___1_nx___2' : ¬ nx + 2 = nx2 + 1 := by omega
    have ne_nx2___1_nx2 : ¬ nx2 + 1 = nx2 := by omega
    have ne_nx2___1_nx2' : ¬ nx2 = nx2 + 1 := by omega
    repeat' (first | with_reducible refine pws_seq ?_ | with_reducible refine pws_block ?_ | ((with_reducible refine pws_regk fun K' S hK' hS => ?_); simp [argSlots, *]) | ((with_reducible refine Goes.go hK' ?_); clear hK' hS; clear K' S))
    refine pws_ent (ent_adopts (v := 5) (t := 24) (es := 1) rfl (by decide)) ?_
    refine pws_loop (α := { v : List Nat × Nat × Nat // nx2 + 2 ≤ v.2.2 }) (fun v => { n := 69, nx := v.1.2.2, s := [(23, .itr nx2), (5, .loc 1 (nx2 + 1) v.1.2.1 0 (outOf (ddF sets) v.1.1).length), (3, .ref (nx + 1) 0)], h := (nx2 + 1, .arr 24 1 v.1.2.1 false (psets (outOf (ddF sets) v.1.1))) :: (nx2, .mit nx (ddF sets).length v.1.1 (ddF sets).length) :: (nx + 2, .dfr true) :: (nx + 1, .box [.mp nx]) :: (nx, .map (ddF sets).length (mentsF 0 (ddF sets))) :: Hc, d := [nx + 2] }) (fun v => (ddF sets).length - v.1.1.length) (fun v => v.1.1.Nodup ∧ ∀ b ∈ v.1.1, b < (ddF sets).length) ⟨([], 0, nx2 + 2), by simp⟩ ⟨List.nodup_nil, by simp⟩ (ent_keep rfl rfl rfl (fun t sv h => SubL.get (by simp [SubL, outOf, *]) h) (fun i b h => h)) ?_
    rintro ⟨⟨seen, g, nx1⟩, hnx1⟩ ⟨hsn, hsl⟩ K hK
    simp only at hnx1 hsn hsl
    have hlen := seen_len hsn hsl
    have hol := outOf_len (ddF sets) seen
    refine PWs.dom fun hdom => ?_
    simp only at hdom
    have hHc1 : ∀ i, nx1 ≤ i → lk i Hc = none := fun i hi => hHc i (by omega)
    clear hdom
    have ne_nx1_nx : ¬ nx1 = nx := by omega
    have ne_nx1_nx' : ¬ nx = nx1 := by omega
    have ne_nx1_nx___1 : ¬ nx1 = nx + 1 := by omega
    have ne_nx1_nx___1' : ¬ nx + 1 = nx1 := by omega
    have ne_nx1_nx___2 : ¬ nx1 = nx + 2 := by omega
    have ne_nx1_nx___2' : ¬ nx + 2 = nx1 := by omega
    have ne_nx1_nx2 : ¬ nx1 = nx2 := by omega
    have ne_nx1_nx2' : ¬ nx2 = nx1 := by omega
    have ne_nx1_nx2___1 : ¬ nx1 = nx2 + 1 := by omega
    have ne_nx1_nx2___1' : ¬ nx2 + 1 = nx1 := by omega
    repeat' (first | with_reducible refine pws_seq ?_ | ((with_reducible refine pws_regk fun K' S hK' hS => ?_); simp [argSlots, *]) | ((with_reducible refine GoesS.go hS ?_); clear hK' hS; clear K' S))
    refine pwl_next (it := nx2) (m := nx) (since := (ddF sets).length) (last := (ddF sets).length) (clock := (ddF sets).length) (seen := seen) (es := mentsF 0 (ddF sets)) rfl rfl (by simp [lk]) (by simp [lk]) (by simp [lk, *]) hlt (Nat.le_refl _) rfl ?_ ?_
    · intro j q hq hns
      obtain ⟨s, hs, rfl⟩ : ∃ s, (ddF sets)[j]? = some s ∧ q = (j, nmV s, stV s) := by
        rw [mentsF_get] at hq
        obtain ⟨s, hs, he⟩ := Option.map_eq_some_iff.1 hq
        exact ⟨s, hs, by simpa using he.symm⟩
      have hsS := hm s (List.mem_of_getElem? hs)
      have hs3 := h3 s (mem_ddF.1 (List.mem_of_getElem? hs))
      have hos := outOf_snoc (seen := seen) hs
      have hjl : j < (ddF sets).length := (List.getElem?_eq_some_iff.1 hs).1
      have hsh := shl_small s.length (by omega)
      have hs0 : ¬ (s.length : Int) < 0 := by omega
      obtain ⟨N, hN⟩ : ∃ N, N = 2 ^ s.length := ⟨_, rfl⟩
      have hN8 : N ≤ 8 ∧ 1 ≤ N := by
        have : s.length = 0 ∨ s.length = 1 ∨ s.length = 2 ∨ s.length = 3 := by omega
        rcases this with h | h | h | h <;> (rw [h] at hN; omega)
      rw [← hN] at hsh hos
      have hwN := wrap64_id (n := (N : Int) - 1) (by omega)
      clear hN
      simp only at hns
      refine pwl_runk fun K' S hK' hS => ?_; simp [*]
      repeat' (first | with_reducible refine pws_seq ?_ | with_reducible refine pws_skip ?_ | with_reducible refine pws_block ?_ | ((with_reducible refine pws_regk fun K' S hK' hS => ?_); simp [argSlots, *]) | ((with_reducible refine Goes.go hK' ?_); clear hK' hS; clear K' S) | ((with_reducible refine GoesS.go hS ?_); clear hK' hS; clear K' S) | ((with_reducible refine pws_true ?_ ?_); (· simp; done)))
      refine pwl_entry (it := nx2) (m := nx) (since := (ddF sets).length) (last := (ddF sets).length) (clock := (ddF sets).length) (b := j) (j := j) (seen := seen) (es := mentsF 0 (ddF sets)) (kv := nmV s) (vv := stV s) rfl rfl (by simp [lk]) (by simp [lk, *]) (by simp [lk, *]) rfl hq hmn rfl ?_
      refine pwl_runk fun K' S hK' hS => ?_; simp [*]
      repeat' (first | with_reducible refine pws_seq ?_ | with_reducible refine pws_block ?_ | ((with_reducible refine pws_regk fun K' S hK' hS => ?_); simp [argSlots, *]) | ((with_reducible refine Goes.go hK' ?_); clear hK' hS; clear K' S))
      refine pws_loop (α := { v : Nat × Nat // nx1 ≤ v.2 }) (fun v => { n := 69, nx := v.1.2, s := [(9, sint v.1.1), (8, sbool (okS (ddF sets) s v.1.1)), (7, stV s), (23, .itr nx2), (5, .loc 1 (nx2 + 1) g 0 (outOf (ddF sets) seen).length), (3, .ref (nx + 1) 0)], h := (nx2 + 1, .arr 24 1 g false (psets (outOf (ddF sets) seen))) :: (nx2, .mit nx (ddF sets).length (seen ++ [j]) (ddF sets).length) :: (nx + 2, .dfr true) :: (nx + 1, .box [.mp nx]) :: (nx, .map (ddF sets).length (mentsF 0 (ddF sets))) :: Hc, d := [nx + 2] }) (fun v => 8 - v.1.1) (fun v => 1 ≤ v.1.1 ∧ v.1.1 ≤ max 1 (N - 1)) ⟨(1, nx1), by simp⟩ ⟨by simp, by simp; omega⟩ (ent_keep rfl rfl rfl (fun t sv h => SubL.get (by simp [SubL, okS_one, *]) h) (fun i b h => h)) ?_
      rintro ⟨⟨b, nx3⟩, hnx3⟩ ⟨hb1, hb2⟩ K2 hK2
      simp only at hnx3 hb1 hb2
      by_cases hb : b < N - 1
      · have hbi : (b : Int) < (N : Int) - 1 := by omega
        have hwb := wrap64_id (n := (b : Int) + 1) (by omega)
        have hok := okS_succ (ds := ddF sets) (s := s) (b := b) (by omega)
        have ne_nx3_nx : ¬ nx3 = nx := by omega
        have ne_nx3_nx' : ¬ nx = nx3 := by omega
        have ne_nx3_nx___1 : ¬ nx3 = nx + 1 := by omega
        have ne_nx3_nx___1' : ¬ nx + 1 = nx3 := by omega
        have ne_nx3_nx___2 : ¬ nx3 = nx + 2 := by omega
        have ne_nx3_nx___2' : ¬ nx + 2 = nx3 := by omega
        have ne_nx3_nx2 : ¬ nx3 = nx2 := by omega
        have ne_nx3_nx2' : ¬ nx2 = nx3 := by omega
        have ne_nx3_nx2___1 : ¬ nx3 = nx2 + 1 := by omega
        have ne_nx3_nx2___1' : ¬ nx2 + 1 = nx3 := by omega
        repeat' (first | with_reducible refine pws_seq ?_ | with_reducible refine pws_skip ?_ | with_reducible refine pws_block ?_ | ((with_reducible refine pws_regk fun K' S hK' hS => ?_); simp [argSlots, *]) | ((with_reducible refine Goes.go hK' ?_); clear hK' hS; clear K' S) | ((with_reducible refine pws_true ?_ ?_); (· simp; done)))
        refine pws_ent (ent_adopts (v := 10) (t := 3) (es := 1) rfl (by decide)) ?_
        refine pws_loop (α := { v : Nat × Nat × Nat // nx3 + 1 ≤ v.2.2 }) (fun v => { n := 69, nx := v.1.2.2, s := [(38, sint v.1.1), (37, sint s.length), (36, stV s), (10, .loc 1 nx3 v.1.2.1 0 (bp s b v.1.1).length), (9, sint b), (8, sbool (okS (ddF sets) s b)), (7, stV s), (23, .itr nx2), (5, .loc 1 (nx2 + 1) g 0 (outOf (ddF sets) seen).length), (3, .ref (nx + 1) 0)], h := (nx3, .arr 3 1 v.1.2.1 false (ints (bp s b v.1.1))) :: (nx2 + 1, .arr 24 1 g false (psets (outOf (ddF sets) seen))) :: (nx2, .mit nx (ddF sets).length (seen ++ [j]) (ddF sets).length) :: (nx + 2, .dfr true) :: (nx + 1, .box [.mp nx]) :: (nx, .map (ddF sets).length (mentsF 0 (ddF sets))) :: Hc, d := [nx + 2] }) (fun v => s.length - v.1.1) (fun v => v.1.1 ≤ s.length) ⟨(0, 0, nx3 + 1), by simp⟩ (by simp) (ent_keep rfl rfl rfl (fun t sv h => SubL.get (by simp [SubL, bp_zero, *]) h) (fun i b h => by simpa [bp_zero] using h)) ?_
        rintro ⟨⟨i, g2, nx4⟩, hnx4⟩ hi K3 hK3
        simp only at hnx4 hi
        have hbl := bp_len s b i
        have ne_nx4_nx : ¬ nx4 = nx := by omega
        have ne_nx4_nx' : ¬ nx = nx4 := by omega
        have ne_nx4_nx___1 : ¬ nx4 = nx + 1 := by omega
        have ne_nx4_nx___1' : ¬ nx + 1 = nx4 := by omega
        have ne_nx4_nx___2 : ¬ nx4 = nx + 2 := by omega
        have ne_nx4_nx___2' : ¬ nx + 2 = nx4 := by omega
        have ne_nx4_nx2 : ¬ nx4 = nx2 := by omega
        have ne_nx4_nx2' : ¬ nx2 = nx4 := by omega
        have ne_nx4_nx2___1 : ¬ nx4 = nx2 + 1 := by omega
        have ne_nx4_nx2___1' : ¬ nx2 + 1 = nx4 := by omega
        have ne_nx4_nx3 : ¬ nx4 = nx3 := by omega
        have ne_nx4_nx3' : ¬ nx3 = nx4 := by omega
        by_cases hi1 : i < s.length
        · have hwi := wrap64_id (n := (i : Int) + 1) (by omega)
          have hshr := shr_small b (by omega) i (by omega)
          have hii : ¬ (i : Int) < 0 := by omega
          have hand0 := and_small (b / 2 ^ i) (by have := Nat.div_le_self b (2 ^ i); omega)
          have hbs := bp_succ (s := s) (b := b) hi1
          have hb8 : ((bp s b i).length + 1) * 8 ≤ 140737488355328 := by omega
          cases hbit : bitOn b i with
          | true =>
            rw [hbit, if_pos rfl] at hbs
            have hm2 : b / 2 ^ i % 2 = 1 := of_decide_eq_true hbit
            have hands : IntKind.i64.wrap ((b / 2 ^ i % 2 ^ IntKind.i64.bits &&& 1 % 2 ^ IntKind.i64.bits : Nat) : Int) = 1 := by rw [hand0, hm2]; rfl
            clear hm2 hbit hand0
            generalize b / 2 ^ i = m at *
            generalize bp s b i = G at *
            repeat' (first | with_reducible refine pws_seq ?_ | with_reducible refine pws_skip ?_ | with_reducible refine pws_block ?_ | ((with_reducible refine pws_regk fun K' S hK' hS => ?_); simp [argSlots, *]) | ((with_reducible refine Goes.go hK' ?_); clear hK' hS; clear K' S) | ((with_reducible refine pws_true ?_ ?_); (· simp; done)) | with_reducible refine blk_normal ?_ | with_reducible refine thenQ_normal ?_ | with_reducible refine pws_nil ?_)
            refine hK3 _ ⟨(i + 1, g2 + 1, nx4 + 1), by simp; omega⟩ (ent_keep rfl rfl rfl (fun t sv h => SubL.get (by simp [SubL, hbs, *]) h) (fun i' b' h => by
              simp only [hbs] at h
              refine lk_skip (by simp only [lk]; rw [if_neg (by omega), if_neg (by omega), if_neg (by omega), if_neg (by omega), if_neg (by omega), if_neg (by omega)]; exact hHc1 _ (by omega)) ?_
              simpa using h)) (by simp; omega) (by simp; omega)
          | false =>
            rw [hbit] at hbs
            simp only [Bool.false_eq_true, if_false] at hbs
            have hm2 : b / 2 ^ i % 2 = 0 := by have := of_decide_eq_false hbit; omega
            have hands : IntKind.i64.wrap ((b / 2 ^ i % 2 ^ IntKind.i64.bits &&& 1 % 2 ^ IntKind.i64.bits : Nat) : Int) = 0 := by rw [hand0, hm2]; rfl
            clear hm2 hbit hand0
            generalize b / 2 ^ i = m at *
            generalize bp s b i = G at *
            repeat' (first | with_reducible refine pws_seq ?_ | with_reducible refine pws_skip ?_ | with_reducible refine pws_block ?_ | ((with_reducible refine pws_regk fun K' S hK' hS => ?_); simp [argSlots, *]) | ((with_reducible refine Goes.go hK' ?_); clear hK' hS; clear K' S) | ((with_reducible refine pws_true ?_ ?_); (· simp; done)) | ((with_reducible refine pws_false ?_ ?_); (· simp; done)) | with_reducible refine blk_normal ?_ | with_reducible refine thenQ_normal ?_ | with_reducible refine pws_nil ?_)
            refine hK3 _ ⟨(i + 1, g2, nx4), by simp; omega⟩ (ent_keep rfl rfl rfl (fun t sv h => SubL.get (by simp [SubL, hbs, *]) h) (fun i' b' h => by simpa [hbs] using h)) (by simp; omega) (by simp; omega)
        · obtain rfl : i = s.length := by omega
          have hbS := bp_small (b := b) (k := s.length) hsS
          have hnm := name_ok (bp s b s.length) hbS (by omega)
          by_cases hin : bp s b s.length ∈ ddF sets
          · obtain ⟨jj, hmf⟩ := mfind_in hbS hm hin
            have hcon : (ddF sets).contains (bp s b s.length) = true := by simpa using hin
            rw [hcon] at hok
            generalize bp s b s.length = G at *
            repeat' (first | with_reducible refine pws_seq ?_ | ((with_reducible refine pws_regk fun K' S hK' hS => ?_); simp [argSlots, *]) | ((with_reducible refine Goes.go hK' ?_); clear hK' hS; clear K' S) | ((with_reducible refine pws_true ?_ ?_); (· simp; done)) | ((with_reducible refine pws_false ?_ ?_); (· simp; done)) | with_reducible refine blk_normal ?_ | with_reducible refine blk_same ?_ | with_reducible refine thenQ_exit ?_ | with_reducible refine thenQ_normal ?_ | with_reducible refine pws_nil ?_ | with_reducible refine pws_exit ?_ | ((with_reducible refine pws_drawk [2] [0, 1, 2, 3, 4, 5, 6, 7, 8] [0, 1, 2, 3, 4, 5, 7, 6, 8] ?_ fun K' S hK' hS => ?_); (· decide +kernel); simp [argSlots, *]) | ((with_reducible refine GoesD.go hS ?_); clear hK' hS; clear K' S) | ((with_reducible refine pwd_callk (eff := [2]) (i := 2) (c := [1, 0]) (c' := [0]) (o := ?_) (cl := ?_) (x := ?_) (f := ?_) (svs := ?_) (cs := ?_) (Qr := ?_) true ?_ ?_ ?_ ?_ ?_ ?_ ?_ ?_ ?_ ?_ ?_ ?_ ?_); rotate_left 7; (· rfl); (· rfl); (· (simp [argSlots, *]; done)); (· (simp [argSlots, *]; done)); (· decide +kernel); (· rfl); (· rfl); (· (simp; with_reducible rfl)); (· (simp; with_reducible rfl)); (· first | (simp [bors, bor]; with_reducible rfl) | (simp [bors, bor, *]; with_reducible rfl)); (· rfl); (· ((with_reducible refine hnm))); (rintro sv hsv hsc; clear hsc; obtain rfl := hsv; refine ⟨(by first | (intro _; rfl) | (intro h; cases h)), ?_⟩; refine pwd_runk fun K' S hK' hS => ?_; simp [argSlots, *])))
            simp at hok
            refine hK2 _ ⟨(b + 1, nx4), by simp; omega⟩ (ent_keep rfl rfl rfl (fun t sv h => SubL.get (by simp [SubL, hok, *]) h) (fun i' b' h => lk_skip (by simp only [lk]; rw [if_neg (by omega), if_neg (by omega), if_neg (by omega), if_neg (by omega), if_neg (by omega)]; exact hHc _ (by omega)) h)) ⟨by simp, by simp; omega⟩ (by simp; omega)
          · have hmf := mfind_out hbS hm hin
            have hcon : (ddF sets).contains (bp s b s.length) = false := by simpa using hin
            rw [hcon] at hok
            generalize bp s b s.length = G at *
            repeat' (first | with_reducible refine pws_seq ?_ | with_reducible refine pws_skip ?_ | ((with_reducible refine pws_regk fun K' S hK' hS => ?_); simp [argSlots, *]) | ((with_reducible refine Goes.go hK' ?_); clear hK' hS; clear K' S) | ((with_reducible refine pws_false ?_ ?_); (· simp; done)) | with_reducible refine blk_normal ?_ | with_reducible refine blk_same ?_ | with_reducible refine thenQ_exit ?_ | with_reducible refine thenQ_normal ?_ | with_reducible refine pws_nil ?_ | with_reducible refine pws_exit ?_ | ((with_reducible refine pws_drawk [2] [0, 1, 2, 3, 4, 5, 6, 7, 8] [0, 1, 2, 3, 4, 5, 7, 6, 8] ?_ fun K' S hK' hS => ?_); (· decide +kernel); simp [argSlots, *]) | ((with_reducible refine GoesD.go hS ?_); clear hK' hS; clear K' S) | ((with_reducible refine pwd_callk (eff := [2]) (i := 2) (c := [1, 0]) (c' := [0]) (o := ?_) (cl := ?_) (x := ?_) (f := ?_) (svs := ?_) (cs := ?_) (Qr := ?_) true ?_ ?_ ?_ ?_ ?_ ?_ ?_ ?_ ?_ ?_ ?_ ?_ ?_); rotate_left 7; (· rfl); (· rfl); (· (simp [argSlots, *]; done)); (· (simp [argSlots, *]; done)); (· decide +kernel); (· rfl); (· rfl); (· (simp; with_reducible rfl)); (· (simp; with_reducible rfl)); (· first | (simp [bors, bor]; with_reducible rfl) | (simp [bors, bor, *]; with_reducible rfl)); (· rfl); (· ((with_reducible refine hnm))); (rintro sv hsv hsc; clear hsc; obtain rfl := hsv; refine ⟨(by first | (intro _; rfl) | (intro h; cases h)), ?_⟩; refine pwd_runk fun K' S hK' hS => ?_; simp [argSlots, *])))
            simp at hok
            refine hK2 _ ⟨(b + 1, nx4), by simp; omega⟩ (ent_keep rfl rfl rfl (fun t sv h => SubL.get (by simp [SubL, hok, *]) h) (fun i' b' h => lk_skip (by simp only [lk]; rw [if_neg (by omega), if_neg (by omega), if_neg (by omega), if_neg (by omega), if_neg (by omega)]; exact hHc _ (by omega)) h)) ⟨by simp, by simp; omega⟩ (by simp; omega)
      · have hbo : okS (ddF sets) s (N - 1) = okS (ddF sets) s b := by
          by_cases e : N = 1
          · have eb : b = 1 := by omega
            rw [e, eb, okS_one, okS_zero]
          · have eb : b = N - 1 := by omega
            rw [eb]
        rw [hbo] at hos
        have hbi : ¬ (b : Int) < (N : Int) - 1 := by omega
        have hb24 : ((outOf (ddF sets) seen).length + 1) * 24 ≤ 140737488355328 := by omega
        have hcnt : seen.length < (ddF sets).length := by
          have h1 : (j :: seen).Nodup := List.nodup_cons.2 ⟨hns, hsn⟩
          have := seen_len (n := (ddF sets).length) h1 fun b hb => by
            rcases List.mem_cons.1 hb with rfl | hb
            · exact hjl
            · exact hsl b hb
          simp only [List.length_cons] at this
          omega
        have hsn' : (seen ++ [j]).Nodup := by
          rw [List.nodup_append]
          exact ⟨hsn, by simp, fun a ha b hb e => by simp at hb; subst hb; subst e; exact hns ha⟩
        have hsl' : ∀ b ∈ seen ++ [j], b < (ddF sets).length := fun b hb => by
          rcases List.mem_append.1 hb with hb | hb
          · exact hsl b hb
          · simp at hb; subst hb; exact hjl
        have ne_nx3_nx : ¬ nx3 = nx := by omega
        have ne_nx3_nx' : ¬ nx = nx3 := by omega
        have ne_nx3_nx___1 : ¬ nx3 = nx + 1 := by omega
        have ne_nx3_nx___1' : ¬ nx + 1 = nx3 := by omega
        have ne_nx3_nx___2 : ¬ nx3 = nx + 2 := by omega
        have ne_nx3_nx___2' : ¬ nx + 2 = nx3 := by omega
        have ne_nx3_nx2 : ¬ nx3 = nx2 := by omega
        have ne_nx3_nx2' : ¬ nx2 = nx3 := by omega
        have ne_nx3_nx2___1 : ¬ nx3 = nx2 + 1 := by omega
        have ne_nx3_nx2___1' : ¬ nx2 + 1 = nx3 := by omega
        clear hbo hK2
        cases hokv : okS (ddF sets) s b with
        | true =>
          rw [hokv, if_pos rfl] at hos
          generalize outOf (ddF sets) seen = O at *
          repeat' (first | with_reducible refine pws_seq ?_ | ((with_reducible refine pws_regk fun K' S hK' hS => ?_); simp [argSlots, *]) | ((with_reducible refine Goes.go hK' ?_); clear hK' hS; clear K' S) | ((with_reducible refine pws_true ?_ ?_); (· simp; done)) | ((with_reducible refine pws_false ?_ ?_); (· simp; done)) | with_reducible refine blk_normal ?_ | with_reducible refine blk_same ?_ | with_reducible refine thenQ_exit ?_ | with_reducible refine thenQ_normal ?_ | with_reducible refine pws_nil ?_ | with_reducible refine pws_exit ?_)
          refine hK _ ⟨(seen ++ [j], g + 1, nx3 + 1), by simp; omega⟩ (ent_keep rfl rfl rfl (fun t sv h => SubL.get (by simp [SubL, hos, *]) h) (fun i' b' h => by
              simp only [hos] at h
              refine lk_skip (by simp only [lk]; rw [if_neg (by omega), if_neg (by omega), if_neg (by omega), if_neg (by omega), if_neg (by omega)]; exact hHc _ (by omega)) ?_
              simpa using h)) ⟨hsn', hsl'⟩ (by simp; omega)
        | false =>
          rw [hokv] at hos
          simp only [Bool.false_eq_true, if_false] at hos
          generalize outOf (ddF sets) seen = O at *
          repeat' (first | with_reducible refine pws_seq ?_ | with_reducible refine pws_skip ?_ | ((with_reducible refine pws_regk fun K' S hK' hS => ?_); simp [argSlots, *]) | ((with_reducible refine Goes.go hK' ?_); clear hK' hS; clear K' S) | ((with_reducible refine pws_false ?_ ?_); (· simp; done)) | with_reducible refine blk_normal ?_ | with_reducible refine blk_same ?_ | with_reducible refine thenQ_exit ?_ | with_reducible refine thenQ_normal ?_ | with_reducible refine pws_nil ?_ | with_reducible refine pws_exit ?_)
          refine hK _ ⟨(seen ++ [j], g, nx3), by simp; omega⟩ (ent_keep rfl rfl rfl (fun t sv h => SubL.get (by simp [SubL, hos, *]) h) (fun i' b' h => by simpa [hos] using h)) ⟨hsn', hsl'⟩ (by simp; omega)
    · intro hall
      have hfin := outOf_min h3 hsn hsl fun b hb => by
        have := hall (b, nmV (ddF sets)[b], stV (ddF sets)[b]) (List.mem_of_getElem? (i := b) (by rw [mentsF_get, List.getElem?_eq_getElem hb]; simp))
        exact this
      rw [← hfin]
      have hO : (outOf (ddF sets) seen).length ≤ 1000000 := by omega
      clear hfin hall hK hsn hsl hol hlen hm hsm h3 hlt hmn
      generalize outOf (ddF sets) seen = O at *
      have hll : (lsort O).length = O.length := lsort_perm.length_eq
      by_cases hpos : 0 < O.length
      · have hcon := sortFunc_pc (nx2 + 1) g 24 O hpos (by omega) nx1 ((nx2 + 1, .arr 24 1 g false (psets O)) :: (nx2, .mit nx (ddF sets).length seen (ddF sets).length) :: (nx + 2, .dfr true) :: (nx + 1, .box [.mp nx]) :: (nx, .map (ddF sets).length (mentsF 0 (ddF sets))) :: Hc) (by simp [lk])
        refine pwl_runk fun K' S hK' hS => ?_; simp [*]
        repeat' (first | with_reducible refine pws_seq ?_ | ((with_reducible refine pws_regk fun K' S hK' hS => ?_); simp [argSlots, *]) | ((with_reducible refine Goes.go hK' ?_); clear hK' hS; clear K' S) | ((with_reducible refine GoesS.go hS ?_); clear hK' hS; clear K' S) | ((with_reducible refine pws_false ?_ ?_); (· simp; done)) | with_reducible refine blk_same ?_ | with_reducible refine thenQ_exit ?_ | with_reducible refine pws_exit ?_)
        refine pwl_callpk (c := ?_) (x := ?_) (f := 126) (caps := []) (svs := [.loc 1 (nx2 + 1) g 0 O.length, .clos 115 []]) (own := []) (Hs := (nx2 + 1, .arr 24 1 g false (psets O)) :: (nx2, .mit nx (ddF sets).length seen (ddF sets).length) :: (nx + 2, .dfr true) :: (nx + 1, .box [.mp nx]) :: (nx, .map (ddF sets).length (mentsF 0 (ddF sets))) :: Hc) (Qr := _) ?_ ?_ ?_ ?_ ?_ ?_ (fun i b h => h) (fun i b h => by simp only [List.cons_append, List.nil_append, lk] at h ⊢; (repeat' split at h) <;> (try subst_vars) <;> first | (subst_vars; simp [*]; done) | (simp_all; done) | (simp_all; omega)) (by simpa [capRefs] using hcon) ?_; rotate_left 2; (· first | rfl | (simp [*]; done)); (· rfl); (· rfl); (· first | rfl | (simp; done)); (· first | rfl | (simp; done)); (· rfl); rintro sv nx' H' hq hn hd
        obtain ⟨rfl, rfl⟩ := hq
        clear hcon hd hn
        refine pwl_runk fun K' S hK' hS => ?_; simp [*]
        repeat' (first | with_reducible refine pws_seq ?_ | ((with_reducible refine pws_regk fun K' S hK' hS => ?_); simp [argSlots, *]) | ((with_reducible refine Goes.go hK' ?_); clear hK' hS; clear K' S) | with_reducible refine pws_ret ?_)
        refine finP_end (st1 := { n := 69, nx := nx', s := [(2, .pv (.sl 1 (psets (lsort O))))], h := (nx + 2, .dfr true) :: (nx + 1, .box [.mp nx]) :: (nx, .map (ddF sets).length (mentsF 0 (ddF sets))) :: Hc, d := [nx + 2] }) (vs := [.pv (.sl 1 (psets (lsort O)))]) (h := ?_) (.inr rfl) (Ent.trans (ent_froz (v := 2) (t := 24) (es := 1) (g := g) (xs := psets (lsort O)) (s' := []) (by simp [lk, hll]) trivial (by simp only [lk]; rw [if_neg (by omega), if_neg (by omega), if_neg (by omega), if_neg (by omega)]; exact hHc _ (by omega))) (ent_droph (by simp only [lk]; rw [if_neg (by omega), if_neg (by omega), if_neg (by omega)]; exact hHc _ (by omega)))) ?_ ?_ ?_
        rotate_left
        · simp [shut, lk, hset]
          rfl
        · simp [Tryz.results81, resL, resOf, lk]
        · exact ⟨by simp [wrapRes, cv], _, _, _, rfl⟩
      · obtain rfl : O = [] := List.eq_nil_of_length_eq_zero (by omega)
        have hcon := sortFunc_nil_pc (nx2 + 1) g nx1 ((nx2 + 1, .arr 24 1 g false (psets [])) :: (nx2, .mit nx (ddF sets).length seen (ddF sets).length) :: (nx + 2, .dfr true) :: (nx + 1, .box [.mp nx]) :: (nx, .map (ddF sets).length (mentsF 0 (ddF sets))) :: Hc)
        clear hpos
        refine pwl_runk fun K' S hK' hS => ?_; simp [*]
        repeat' (first | with_reducible refine pws_seq ?_ | ((with_reducible refine pws_regk fun K' S hK' hS => ?_); simp [argSlots, *]) | ((with_reducible refine Goes.go hK' ?_); clear hK' hS; clear K' S) | ((with_reducible refine GoesS.go hS ?_); clear hK' hS; clear K' S) | ((with_reducible refine pws_false ?_ ?_); (· simp; done)) | with_reducible refine blk_same ?_ | with_reducible refine thenQ_exit ?_ | with_reducible refine pws_exit ?_)
        refine pwl_callpk (c := ?_) (x := ?_) (f := 126) (caps := []) (svs := [.loc 1 (nx2 + 1) g 0 0, .clos 115 []]) (own := []) (Hs := (nx2 + 1, .arr 24 1 g false (psets [])) :: (nx2, .mit nx (ddF sets).length seen (ddF sets).length) :: (nx + 2, .dfr true) :: (nx + 1, .box [.mp nx]) :: (nx, .map (ddF sets).length (mentsF 0 (ddF sets))) :: Hc) (Qr := _) ?_ ?_ ?_ ?_ ?_ ?_ (fun i b h => h) (fun i b h => by simp only [List.cons_append, List.nil_append, lk] at h ⊢; (repeat' split at h) <;> (try subst_vars) <;> first | (subst_vars; simp [*]; done) | (simp_all; done) | (simp_all; omega)) (by simpa [capRefs] using hcon) ?_; rotate_left 2; (· first | rfl | (simp [*]; done)); (· rfl); (· rfl); (· first | rfl | (simp; done)); (· first | rfl | (simp; done)); (· rfl); rintro sv nx' H' hq hn hd
        obtain ⟨rfl, rfl⟩ := hq
        clear hcon hd hn
        refine pwl_runk fun K' S hK' hS => ?_; simp [*]
        repeat' (first | with_reducible refine pws_seq ?_ | ((with_reducible refine pws_regk fun K' S hK' hS => ?_); simp [argSlots, *]) | ((with_reducible refine Goes.go hK' ?_); clear hK' hS; clear K' S) | with_reducible refine pws_ret ?_)
        refine finP_end (st1 := { n := 69, nx := nx', s := [(2, .pv (.sl 1 (psets (lsort []))))], h := (nx + 2, .dfr true) :: (nx + 1, .box [.mp nx]) :: (nx, .map (ddF sets).length (mentsF 0 (ddF sets))) :: Hc, d := [nx + 2] }) (vs := [.pv (.sl 1 (psets (lsort [])))]) (h := ?_) (.inr rfl) (Ent.trans (ent_froz (v := 2) (t := 24) (es := 1) (g := g) (xs := psets (lsort [])) (s' := []) (by simp [lk, hll]) trivial (by simp only [lk]; rw [if_neg (by omega), if_neg (by omega), if_neg (by omega), if_neg (by omega)]; exact hHc _ (by omega))) (ent_droph (by simp only [lk]; rw [if_neg (by omega), if_neg (by omega), if_neg (by omega)]; exact hHc _ (by omega)))) ?_ ?_ ?_
        rotate_left
        · simp [shut, lk, hset]
          rfl
        · simp [Tryz.results81, resL, resOf, lk]
        · exact ⟨by simp [wrapRes, cv], _, _, _, rfl⟩
  · rintro ys sv nx2 _ h
    exact h.elim
end
section
attribute [local simp] V.c V.z Sd.c Tst.c Fx.c Rl.c Fc.c Gr.c wrap1f take_map_len take_map_len1 wrap1 wrap2 wrap3
theorem enters28 : Enters Tryz.prog 28 := enters_mk Tryz.func28 (by kernel_rfl) (by kernel_rfl)
theorem enters87 : Enters Tryz.prog 87 := enters_mk Tryz.func87 (by kernel_rfl) (by kernel_rfl)
theorem enters30 : Enters Tryz.prog 30 := enters_mk Tryz.func30 (by kernel_rfl) (by kernel_rfl)
theorem in_all3 : ∀ {s : List Int}, 0 < s.length → s.length ≤ 3 → (∀ x ∈ s, 0 ≤ x ∧ x < 12) → s ∈ all3
  | [], h, _, _ => by simp at h
  | [p], _, _, ha => by
    have hp := ha p (by simp)
    have e : [p] = tk 1 p.toNat 0 0 := by simp [tk]; omega
    rw [e]
    exact mem_all3 (by omega) (by omega) (by omega) (by omega) (by omega)
  | [p, q], _, _, ha => by
    have hp := ha p (by simp)
    have hq := ha q (by simp)
    have e : [p, q] = tk 2 p.toNat q.toNat 0 := by simp [tk]; omega
    rw [e]
    exact mem_all3 (by omega) (by omega) (by omega) (by omega) (by omega)
  | [p, q, r], _, _, ha => by
    have hp := ha p (by simp)
    have hq := ha q (by simp)
    have hr := ha r (by simp)
    have e : [p, q, r] = tk 3 p.toNat q.toNat r.toNat := by simp [tk]; omega
    rw [e]
    exact mem_all3 (by omega) (by omega) (by omega) (by omega) (by omega)
  | _ :: _ :: _ :: _ :: _, _, h, _ => by simp at h
theorem nodup_lenL : ∀ {l m : List (List Int)}, l.Nodup → (∀ x ∈ l, x ∈ m) → l.length ≤ m.length
  | [], _, _, _ => by simp
  | a :: l, m, h, hs => by
    obtain ⟨h1, h2⟩ := List.nodup_cons.1 h
    have := nodup_lenL (m := m.erase a) h2 fun x hx => (List.mem_erase_of_ne (fun e => h1 (by rw [← e]; exact hx))).2 (hs x (List.mem_cons_of_mem _ hx))
    have ha := hs a (by simp)
    rw [List.length_erase_of_mem ha] at this
    have : 0 < m.length := List.length_pos_of_mem ha
    simp
    omega
/-- Sets of facts, few. -/
def Sets3 (n : Nat) (sets : List (List Int)) : Prop := ∀ s ∈ sets, 0 < s.length ∧ s.length ≤ 3 ∧ ∀ x ∈ s, 0 ≤ x ∧ x < n
theorem Sets3.dd {n : Nat} {sets : List (List Int)} (h : Sets3 n sets) (hn : n ≤ 12) : (ddF sets).length ≤ 1000000 := by
  have := nodup_lenL (nodup_ddF (l := sets)) (m := all3) fun s hs => by
    obtain ⟨h1, h2, h3⟩ := h s (mem_ddF.1 hs)
    exact in_all3 h1 h2 fun x hx => by have := h3 x hx; omega
  rw [all3_len] at this
  omega
theorem Sets3.small {n : Nat} {sets : List (List Int)} (h : Sets3 n sets) (hn : n ≤ 12) : ∀ s ∈ sets, Small s := fun s hs x hx => by
  have := (h s hs).2.2 x hx
  omega
theorem Sets3.three {n : Nat} {sets : List (List Int)} (h : Sets3 n sets) : ∀ s ∈ sets, s.length ≤ 3 := fun s hs => (h s hs).2.1
theorem wits_sets3 (R : List Rl) (F : List Fc) : Sets3 F.length (wits R F (allI F.length)) := fun s hs => by
  obtain ⟨_, h2, h3, h4, _⟩ := wits_mem inc_allI hs
  exact ⟨h3, h4, fun x hx => mem_allI.1 (h2 x hx)⟩
theorem edges_sets3 (R : List Rl) (F : List Fc) : Sets3 F.length (singles (dangL R F) ++ violL R F) := fun s hs => by
  rcases List.mem_append.1 hs with hs | hs
  · obtain ⟨x, hx, rfl⟩ := List.mem_map.1 hs
    refine ⟨by simp, by simp, fun y hy => ?_⟩
    simp at hy
    subst hy
    have := mem_dangL.1 hx
    exact ⟨this.1, this.2.1⟩
  · have hm := mem_violL.1 hs
    have hl := minBad_len hm
    exact ⟨hl.1, hl.2, (setP_iff.1 hm.1).2⟩
theorem viol_minL (R : List Rl) (F : List Fc) : minL (wits R F (allI F.length)) = violL R F := (violL_eq (isViol_of_min (minL_ok _))).symm
theorem dViolations_ok (R : List Rl) (F : List Fc) (hR : OkR R) (hlR : R.length ≤ 1000) (hF : F.length ≤ 12) : CC Tryz.prog 28 [.pv (.sl 10 (prules R)), .pv (.sl 6 (pfacts F))] (fun sv => sv = .tup [.pv (.sl 1 (psets (violL R F))), sint 0]) := by
  have hal := all_ok F (by omega)
  have hwo := wits_ok R F (allI F.length) 0 []
  have hws := wits_sets3 R F
  have hll : (allI F.length).length = F.length := by simp [allI]
  have hwi := wit_it (F := F) (cs := allI F.length) 0 hR hlR (by omega) (fun x hx => mem_allI.1 hx)
  have hmi := minimal_pc 143 (caW 0) (HW R F (allI F.length) 0) (wits R F (allI F.length)) hwi (hws.small hF) hws.three (hws.dd hF) 3 [] (fun i b h => rfl)
  rw [viol_minL] at hmi
  have hvl := viol_len (R := R) hF
  have hv2 : ¬ (20000 : Int) < (violL R F).length := by omega
  have h4 : ¬ (4000 : Int) < F.length := by omega
  clear hws hwi hll hvl
  refine cc_of_pw Tryz.func28 rfl enters28 Tryz.ntmps28 (by simp) (pw_of_pws ?_)
  repeat' (first | with_reducible refine pws_seq ?_ | with_reducible refine pws_skip ?_ | ((with_reducible refine pws_regk fun K' S hK' hS => ?_); simp [argSlots, *]) | ((with_reducible refine Goes.go hK' ?_); clear hK' hS; clear K' S) | ((with_reducible refine GoesS.go hS ?_); clear hK' hS; clear K' S) | ((with_reducible refine pws_false ?_ ?_); (· simp; done)) | ((with_reducible refine pwl_callk (c := ?_) (x := ?_) (f := ?_) (svs := ?_) (cs := ?_) (Qr := ?_) false ?_ ?_ ?_ ?_ ?_ ?_ ?_ ?_ ?_); rotate_left 6; (· (simp [argSlots, *]; done)); (· rfl); (· rfl); (· (simp; with_reducible rfl)); (· (simp; with_reducible rfl)); (· first | (simp [bors, bor]; with_reducible rfl) | (simp [bors, bor, *]; with_reducible rfl)); (· rfl); (· ((with_reducible refine hal))); (rintro sv hsv hsc; clear hsc; obtain rfl := hsv; refine ⟨(by first | (intro _; rfl) | (intro h; cases h)), ?_⟩; refine pwl_runk fun K' S hK' hS => ?_; simp [argSlots, *])))
  refine pwl_callpk (c := ?_) (x := ?_) (f := 82) (caps := []) (svs := [.pv (.sl 10 (prules R)), .pv (.sl 6 (pfacts F)), .pv (.sl 1 (ints (allI F.length)))]) (own := []) (Hs := []) (Qr := _) ?_ ?_ ?_ ?_ ?_ ?_ (fun i b h => h) (fun i b h => by cases h) (by exact hwo) ?_
  rotate_left 2
  · first | rfl | (simp; done)
  · rfl
  · rfl
  · rfl
  · rfl
  · rfl
  rintro sv nx' H' hq hn hd
  obtain ⟨rfl, rfl, rfl⟩ := hq
  clear hwo hd hn
  refine pwl_runk fun K' S hK' hS => ?_; simp [*]
  repeat' (first | ((with_reducible refine GoesS.go hS ?_); clear hK' hS; clear K' S))
  refine pwl_callpk (c := ?_) (x := ?_) (f := 81) (caps := []) (svs := [.clos 143 (caW 0)]) (own := []) (Hs := HW R F (allI F.length) 0 ++ []) (Qr := _) ?_ ?_ ?_ ?_ ?_ ?_ (fun i b h => h) (fun i b h => by simp only [List.cons_append, List.nil_append, lk] at h ⊢; (repeat' split at h) <;> (try subst_vars) <;> first | (subst_vars; simp [*]; done) | (simp_all; done) | (simp_all; omega)) (hmi) ?_; rotate_left 2; (· first | rfl | (simp [*]; done)); (· rfl); (· rfl); (· first | rfl | (simp; done)); (· first | rfl | (simp; done)); (· rfl); rintro sv nx' H' hq hn hd
  obtain ⟨rfl, rfl⟩ := hq
  clear hmi hd hn
  refine pwl_runk fun K' S hK' hS => ?_; simp [*]
  repeat' (first | with_reducible refine pws_seq ?_ | with_reducible refine pws_skip ?_ | ((with_reducible refine pws_regk fun K' S hK' hS => ?_); simp [argSlots, *]) | ((with_reducible refine Goes.go hK' ?_); clear hK' hS; clear K' S) | ((with_reducible refine pws_false ?_ ?_); (· simp; done)) | with_reducible refine pws_ret ?_)
  all_goals (refine finC_ret (vs := ?_) [] (by first | exact .inr rfl | exact .inl rfl) rfl ?_ ?_ ?_; rotate_left; (· simp [Tryz.results28, resL, resOf]; rfl); (· first | rfl | (simp [wrapRes, cv, SV.const, constL]; done)); (· first | (simp [wrapRes, cv, *]; done) | (simp [wrapRes, cv, *]; grind) | (simp [wrapRes, cv, *]; omega)))
end
section
attribute [local simp] V.c V.z Sd.c Tst.c Fx.c Rl.c Fc.c Gr.c wrap1f take_map_len take_map_len1 wrap1 wrap2 wrap3
abbrev caC : List (Nat × Nat) := [(0, 0), (1, 0), (5, 0)]
abbrev HC (R : List Rl) (F : List Fc) (V : List (List Int)) : List (Nat × ABlk) := [(5, .box [.pv (.sl 1 (psets V))]), (1, .box [.pv (.sl 6 (pfacts F))]), (0, .box [.pv (.sl 10 (prules R))])]
theorem map_split {L : List (List Int)} {m : Nat} (h : m < L.length) : L.map stV = (L.take m).map stV ++ stV L[m] :: (L.drop (m + 1)).map stV := by
  rw [← List.map_cons (f := stV), ← List.map_append, ← List.drop_eq_getElem_cons h, List.take_append_drop]
theorem conf_it (R : List Rl) (F : List Fc) (V : List (List Int)) (hF : F.length ≤ 12) (hV : V.length ≤ 1000000) : ItC Tryz.prog 87 caC (HC R F V) (fun _ => True) ((singles (dangL R F) ++ V).map stV) := by
  intro y nx H C D _ hstep hmono hdis h0
  have hdd := dDangling_ok R F hF
  have hdl := dang_len (R := R) (F := F)
  refine PC.dom enters87 fun hdom => ?_
  have hp1 : 5 < nx := hdom _ (.box [.pv (.sl 1 (psets V))]) (lk_append_left (by simp [HC, lk]))
  have hHn : ∀ i, nx ≤ i → lk i H = none := fun i hi => by
    cases hx : lk i H with
    | none => rfl
    | some b => have := hdom i b (by rw [lk_append_right]; exact hx; (simp only [HC, lk]; rw [if_neg (by omega), if_neg (by omega), if_neg (by omega)])); omega
  clear hdom
  generalize dangL R F = d at *
  refine pc_of_pw' (fn := Tryz.f87) Tryz.func87 rfl enters87 Tryz.ntmps87 (by simp [capRefs]) (pw_of_pws ?_)
  repeat' (first | with_reducible refine pws_seq ?_ | with_reducible refine pws_block ?_ | ((with_reducible refine pws_regk fun K' S hK' hS => ?_); simp [argSlots, capRefs, *]) | ((with_reducible refine Goes.go hK' ?_); clear hK' hS; clear K' S) | ((with_reducible refine GoesS.go hS ?_); clear hK' hS; clear K' S) | ((with_reducible refine pwl_callk (c := ?_) (x := ?_) (f := ?_) (svs := ?_) (cs := ?_) (Qr := ?_) false ?_ ?_ ?_ ?_ ?_ ?_ ?_ ?_ ?_); rotate_left 6; (· (simp [argSlots, capRefs, *]; done)); (· rfl); (· rfl); (· (simp; with_reducible rfl)); (· (simp; with_reducible rfl)); (· first | (simp [bors, bor]; with_reducible rfl) | (simp [bors, bor, *]; with_reducible rfl)); (· rfl); (· ((with_reducible refine hdd))); (rintro sv hsv hsc; clear hsc; obtain rfl := hsv; refine ⟨(by first | (intro _; rfl) | (intro h; cases h)), ?_⟩; refine pwl_runk fun K' S hK' hS => ?_; simp [argSlots, capRefs, *])))
  refine pws_loop (α := { q : Nat × Nat × List (Nat × ABlk) // q.1 ≤ d.length }) (fun q => { n := 34, nx := q.1.2.1, s := [(13, sint q.1.1), (12, sint d.length), (11, .pv (.sl 1 (ints d))), (0, .yld y), (1, .ref 0 0), (2, .ref 1 0), (3, .ref 5 0)], h := HC R F V ++ q.1.2.2, d := [] }) (fun q => d.length - q.1.1) (fun q => C (((singles d ++ V).take q.1.1).map stV) q.1.2.1 q.1.2.2 ∧ disj (HC R F V) q.1.2.2 ∧ nx ≤ q.1.2.1) ⟨(0, nx, H), by simp⟩ ⟨by simpa using h0, hdis, Nat.le_refl _⟩ (ent_keep rfl rfl rfl (fun t sv h => SubL.get (by simp [SubL, *]) h) (fun i b h => h)) ?_
  clear h0 hdis hHn hdd
  rintro ⟨⟨k, nx1, H1⟩, hk⟩ ⟨hC, hdis, hnx⟩ K hK
  simp only at hk hC hdis hnx
  by_cases h1 : k < d.length
  · have hw := wrap64_id (n := (k : Int) + 1) (by omega)
    have hm : k < (singles d ++ V).length := by simp [singles]; omega
    have hLm : (singles d ++ V)[k] = [d[k]] := by
      rw [List.getElem_append_left (by simp [singles]; omega)]
      simp [singles]
    have hsp := map_split hm
    rw [hLm] at hsp
    refine PWs.dom fun hdk => ?_
    simp only at hdk
    have hd1 : ∀ i, nx1 ≤ i → lk i (HC R F V ++ H1) = none := fun i hi => by
      cases hx : lk i (HC R F V ++ H1) with
      | none => rfl
      | some b => have := hdk i b hx; omega
    clear hdk
    have z0 : ¬ nx1 = 0 := by omega
    have z1 : ¬ nx1 = 1 := by omega
    have z5 : ¬ nx1 = 5 := by omega
    have z0' : ¬ 0 = nx1 := by omega
    have z1' : ¬ 1 = nx1 := by omega
    have z5' : ¬ 5 = nx1 := by omega
    have hst := hstep _ _ _ hsp (nx1 + 1) H1 (hmono _ _ _ _ hC (by omega))
    repeat' (first | with_reducible refine pws_seq ?_ | with_reducible refine pws_skip ?_ | with_reducible refine pws_block ?_ | ((with_reducible refine pws_regk fun K' S hK' hS => ?_); simp [argSlots, capRefs, *]) | ((with_reducible refine Goes.go hK' ?_); clear hK' hS; clear K' S) | ((with_reducible refine GoesS.go hS ?_); clear hK' hS; clear K' S) | ((with_reducible refine pws_true ?_ ?_); (· simp; done)))
    refine PWl.ent (ent_froz (xs := [[pint d[k]]]) (v := 19) (s' := [(17, .yld y), (13, sint k), (12, sint d.length), (11, .pv (.sl 1 (ints d))), (0, .yld y), (1, .ref 0 0), (2, .ref 1 0), (3, .ref 5 0)]) (by simp [lk]) (by simp [SubL, *]) (by simpa using hd1 nx1 (Nat.le_refl _))) ?_
    refine pwl_yieldk (c := ?_) (x := ?_) (y := y) (svs := [stV [d[k]]]) (own := HC R F V) (Hs := H1) (Qr := _) ?_ ?_ ?_ ?_ ?_ ?_ rfl (hdis) (hst) ?_; rotate_left 2; (· first | rfl | (simp [*]; done)); (· rfl); (· rfl); (· first | rfl | (simp; done)); (· first | rfl | (simp; done)); (· rfl); rintro sv nx' H' hq hn hd; simp only at hn; rcases hq with ⟨rfl, hc⟩ | ⟨rfl, hc⟩
    · have hC2 : C (((singles d ++ V).take (k + 1)).map stV) nx' H' := by
        rw [List.take_succ_eq_append_getElem hm, List.map_append, hLm]
        exact hc
      clear hst hsp hC hc hLm
      refine pwl_runk fun K' S hK' hS => ?_; simp [*]
      repeat' (first | with_reducible refine pws_skip ?_ | ((with_reducible refine pws_regk fun K' S hK' hS => ?_); simp [argSlots, capRefs, *]) | ((with_reducible refine Goes.go hK' ?_); clear hK' hS; clear K' S) | ((with_reducible refine pws_false ?_ ?_); (· simp; done)) | with_reducible refine blk_normal ?_ | with_reducible refine thenQ_normal ?_ | with_reducible refine pws_nil ?_)
      refine hK _ ⟨(k + 1, nx', H'), by simp; omega⟩ (ent_keep rfl rfl rfl (fun t sv h => SubL.get (by simp [SubL, *]) h) (fun i b h => h)) ⟨hC2, hd, by simp; omega⟩ (by simp; omega)
    · clear hst hsp hC hK hLm
      refine pwl_runk fun K' S hK' hS => ?_; simp [*]
      repeat' (first | ((with_reducible refine Goes.go hK' ?_); clear hK' hS; clear K' S) | ((with_reducible refine pws_true ?_ ?_); (· simp; done)) | with_reducible refine pws_ret ?_ | with_reducible refine blk_ret ?_ | with_reducible refine thenQ_ret ?_)
      refine finP_end (vs := []) (.inr rfl) (ent_keep (st' := { n := 34, nx := nx', s := [], h := H', d := [] }) rfl rfl rfl (fun t sv h => by cases h) (disj_sub hd)) rfl rfl ?_
      exact .inr ⟨_, hc⟩
  · obtain rfl : k = d.length := by omega
    clear hK
    repeat' (first | with_reducible refine pws_seq ?_ | with_reducible refine pws_block ?_ | ((with_reducible refine pws_regk fun K' S hK' hS => ?_); simp [argSlots, capRefs, *]) | ((with_reducible refine Goes.go hK' ?_); clear hK' hS; clear K' S) | ((with_reducible refine pws_false ?_ ?_); (· simp; done)) | with_reducible refine blk_same ?_ | with_reducible refine thenQ_exit ?_ | with_reducible refine pws_exit ?_)
    refine pws_loop (α := { q : Nat × Nat × List (Nat × ABlk) // q.1 ≤ V.length }) (fun q => { n := 34, nx := q.1.2.1, s := [(25, sint q.1.1), (24, sint V.length), (23, .pv (.sl 1 (psets V))), (0, .yld y)], h := HC R F V ++ q.1.2.2, d := [] }) (fun q => V.length - q.1.1) (fun q => C (((singles d ++ V).take (d.length + q.1.1)).map stV) q.1.2.1 q.1.2.2 ∧ disj (HC R F V) q.1.2.2 ∧ nx ≤ q.1.2.1) ⟨(0, nx1, H1), by simp⟩ ⟨by simpa using hC, hdis, hnx⟩ (ent_keep rfl rfl rfl (fun t sv h => SubL.get (by simp [SubL, *]) h) (fun i b h => h)) ?_
    clear hC hdis hnx
    rintro ⟨⟨k, nx1, H1⟩, hk⟩ ⟨hC, hdis, hnx⟩ K hK
    simp only at hk hC hdis hnx
    by_cases h1 : k < V.length
    · have hw := wrap64_id (n := (k : Int) + 1) (by omega)
      have hm : d.length + k < (singles d ++ V).length := by simp [singles]; omega
      have hLm : (singles d ++ V)[d.length + k] = V[k] := by
        rw [List.getElem_append_right (by simp [singles])]
        simp [singles]
      have hsp := map_split hm
      rw [hLm] at hsp
      have hst := hstep _ _ _ hsp nx1 H1 hC
      repeat' (first | with_reducible refine pws_seq ?_ | with_reducible refine pws_skip ?_ | with_reducible refine pws_block ?_ | ((with_reducible refine pws_regk fun K' S hK' hS => ?_); simp [argSlots, capRefs, *]) | ((with_reducible refine Goes.go hK' ?_); clear hK' hS; clear K' S) | ((with_reducible refine GoesS.go hS ?_); clear hK' hS; clear K' S) | ((with_reducible refine pws_true ?_ ?_); (· simp; done)))
      refine pwl_yieldk (c := ?_) (x := ?_) (y := y) (svs := [stV V[k]]) (own := HC R F V) (Hs := H1) (Qr := _) ?_ ?_ ?_ ?_ ?_ ?_ rfl (hdis) (hst) ?_; rotate_left 2; (· first | rfl | (simp [*]; done)); (· rfl); (· rfl); (· first | rfl | (simp; done)); (· first | rfl | (simp; done)); (· rfl); rintro sv nx' H' hq hn hd; simp only at hn; rcases hq with ⟨rfl, hc⟩ | ⟨rfl, hc⟩
      · have hC2 : C (((singles d ++ V).take (d.length + (k + 1))).map stV) nx' H' := by
          rw [← Nat.add_assoc, List.take_succ_eq_append_getElem hm, List.map_append, hLm]
          exact hc
        clear hst hsp hC hc hLm
        refine pwl_runk fun K' S hK' hS => ?_; simp [*]
        repeat' (first | with_reducible refine pws_skip ?_ | ((with_reducible refine pws_regk fun K' S hK' hS => ?_); simp [argSlots, capRefs, *]) | ((with_reducible refine Goes.go hK' ?_); clear hK' hS; clear K' S) | ((with_reducible refine pws_false ?_ ?_); (· simp; done)) | with_reducible refine blk_normal ?_ | with_reducible refine thenQ_normal ?_ | with_reducible refine pws_nil ?_)
        refine hK _ ⟨(k + 1, nx', H'), by simp; omega⟩ (ent_keep rfl rfl rfl (fun t sv h => SubL.get (by simp [SubL, *]) h) (fun i b h => h)) ⟨hC2, hd, by simp; omega⟩ (by simp; omega)
      · clear hst hsp hC hK hLm
        refine pwl_runk fun K' S hK' hS => ?_; simp [*]
        repeat' (first | ((with_reducible refine Goes.go hK' ?_); clear hK' hS; clear K' S) | ((with_reducible refine pws_true ?_ ?_); (· simp; done)) | with_reducible refine pws_ret ?_ | with_reducible refine blk_ret ?_ | with_reducible refine thenQ_ret ?_)
        refine finP_end (vs := []) (.inr rfl) (ent_keep (st' := { n := 34, nx := nx', s := [], h := H', d := [] }) rfl rfl rfl (fun t sv h => by cases h) (disj_sub hd)) rfl rfl ?_
        exact .inr ⟨_, hc⟩
    · obtain rfl : k = V.length := by omega
      have hLL : (singles d ++ V).take (d.length + V.length) = singles d ++ V := List.take_of_length_le (by simp [singles])
      rw [hLL] at hC
      clear hK
      repeat' (first | with_reducible refine pws_seq ?_ | ((with_reducible refine pws_regk fun K' S hK' hS => ?_); simp [argSlots, capRefs, *]) | ((with_reducible refine Goes.go hK' ?_); clear hK' hS; clear K' S) | ((with_reducible refine pws_false ?_ ?_); (· simp; done)) | with_reducible refine blk_same ?_ | with_reducible refine thenQ_exit ?_ | with_reducible refine pws_nil ?_ | with_reducible refine pws_exit ?_)
      refine finP_end (vs := []) (.inl rfl) (ent_keep (st' := { n := 34, nx := nx1, s := [], h := H1, d := [] }) rfl rfl rfl (fun t sv h => by cases h) (disj_sub hdis)) rfl rfl ?_
      exact .inl hC
end
section
attribute [local simp] V.c V.z Sd.c Tst.c Fx.c Rl.c Fc.c Gr.c wrap1f take_map_len take_map_len1 wrap1 wrap2 wrap3
theorem dConflicts_ok (R : List Rl) (F : List Fc) (hR : OkR R) (hlR : R.length ≤ 1000) (hF : F.length ≤ 12) : CC Tryz.prog 30 [.pv (.sl 10 (prules R)), .pv (.sl 6 (pfacts F))] (fun sv => sv = .tup [.agg (confG R F).c, sint (confE F)]) := by
  refine CC.rest ?_
  refine cc_of_pw Tryz.func30 rfl enters30 Tryz.ntmps30 (by simp) (pw_of_pws ?_)
  have hFi : ¬ (4000 : Int) < F.length := by omega
  repeat' (first | with_reducible refine pws_seq ?_ | with_reducible refine pws_skip ?_ | with_reducible refine pws_block ?_ | ((with_reducible refine pws_regk fun K' S hK' hS => ?_); simp [argSlots, *]) | ((with_reducible refine Goes.go hK' ?_); clear hK' hS; clear K' S) | ((with_reducible refine pws_false ?_ ?_); (· simp; done)))
  refine pws_ent (ent_adopt (b := 3) (j := 1) (t := 3) (es := 1) rfl rfl (by decide)) ?_
  refine pws_loop (α := { k : Nat // k ≤ F.length }) (fun k => { n := 55, nx := 5, s := [(20, sint k.1), (19, sint F.length), (18, .pv (.sl 6 (pfacts F))), (6, .ref 3 0), (4, .ref 2 0), (3, .ref 1 0), (2, .ref 0 0)], h := [(4, .arr 3 1 k.1 false (ints ((F.map Fc.cost).take k.1))), (3, .box [sint F.length, .loc 1 4 k.1 0 k.1, .pv (.lit (.slice none 0 0))]), (2, .box [sint 0, .pv (.lit (.slice none 0 0)), .pv (.lit (.slice none 0 0))]), (1, .box [.pv (.sl 6 (pfacts F))]), (0, .box [.pv (.sl 10 (prules R))])], d := [] }) (fun k => F.length - k.1) (fun k => (F.drop k.1).any (fun f => decide (f.cost < 0) || decide (1000000000 < f.cost)) = costBad F) ⟨0, by omega⟩ rfl (ent_sub rfl rfl rfl (by simp [SubL, *]) (by simp [SubL, *]) (by simp) (by simp) (by simp [slotsBelow, SV.lo, belowL]) (by simp [heapBelow, ABlk.lo, SV.lo, belowL, slotsBelow])) ?_
  rintro ⟨k, hk⟩ hok K hK
  simp only at hok
  by_cases h1 : k < F.length
  · have hw := wrap64_id (n := (k : Int) + 1) (by omega)
    have hd := any_drop (fun f : Fc => decide (f.cost < 0) || decide (1000000000 < f.cost)) h1
    rw [hok] at hd
    clear hok
    by_cases c1 : F[k].cost < 0
    · have hb : costBad F = true := by rw [hd]; simp [c1]
      have hg : confG R F = ⟨0, [], []⟩ := by simp [confG, hb]
      have he : confE F = 1 := by simp [confE, hb]
      clear hd hK
      repeat' (first | with_reducible refine pws_seq ?_ | with_reducible refine pws_skip ?_ | with_reducible refine pws_block ?_ | ((with_reducible refine pws_regk fun K' S hK' hS => ?_); simp [argSlots, *]) | ((with_reducible refine Goes.go hK' ?_); clear hK' hS; clear K' S) | ((with_reducible refine pws_true ?_ ?_); (· simp; done)) | with_reducible refine pws_ret ?_ | with_reducible refine blk_ret ?_ | with_reducible refine thenQ_ret ?_)
      refine finC_ret (vs := ?_) [] (.inr rfl) rfl ?_ ?_ ?_
      rotate_left
      · simp [Tryz.results30, resL, resOf]; rfl
      · simp [wrapRes, cv, SV.const, constL]
      · simp [wrapRes, cv, hg, he]
        (repeat' (first | exact SLs.nil | refine SLs.cons ?_ ?_ | with_reducible exact SLe.refl _ | refine SLe.agg ?_ | exact PLs.nil | refine PLs.cons ?_ ?_ | with_reducible exact PLe.refl _ | exact PLe.nil _))
    · by_cases c2 : 1000000000 < F[k].cost
      · have hb : costBad F = true := by rw [hd]; simp [c2]
        have hg : confG R F = ⟨0, [], []⟩ := by simp [confG, hb]
        have he : confE F = 1 := by simp [confE, hb]
        clear hd hK
        repeat' (first | with_reducible refine pws_seq ?_ | with_reducible refine pws_skip ?_ | with_reducible refine pws_block ?_ | ((with_reducible refine pws_regk fun K' S hK' hS => ?_); simp [argSlots, *]) | ((with_reducible refine Goes.go hK' ?_); clear hK' hS; clear K' S) | ((with_reducible refine pws_true ?_ ?_); (· simp; done)) | with_reducible refine pws_ret ?_ | with_reducible refine blk_ret ?_ | with_reducible refine thenQ_ret ?_)
        refine finC_ret (vs := ?_) [] (.inr rfl) rfl ?_ ?_ ?_
        rotate_left
        · simp [Tryz.results30, resL, resOf]; rfl
        · simp [wrapRes, cv, SV.const, constL]
        · simp [wrapRes, cv, hg, he]
          (repeat' (first | exact SLs.nil | refine SLs.cons ?_ ?_ | with_reducible exact SLe.refl _ | refine SLe.agg ?_ | exact PLs.nil | refine PLs.cons ?_ ?_ | with_reducible exact PLe.refl _ | exact PLe.nil _))
      · have hd' : (F.drop (k + 1)).any (fun f => decide (f.cost < 0) || decide (1000000000 < f.cost)) = costBad F := by rw [hd]; simp [c1, c2]
        have hts : ints ((F.map Fc.cost).take (k + 1)) = ints ((F.map Fc.cost).take k) ++ [[pint F[k].cost]] := by
          rw [List.take_succ_eq_append_getElem (by simp; omega)]
          simp
        have hb1 : (k + 1) * 8 ≤ 140737488355328 := by omega
        have hlt : (ints ((F.map Fc.cost).take k)).length = k := by simp; omega
        have htt : List.take k (ints ((F.map Fc.cost).take k)) = ints ((F.map Fc.cost).take k) := List.take_of_length_le (by rw [hlt]; omega)
        clear hd
        generalize hG : ints ((F.map Fc.cost).take k) = G at *
        repeat' (first | with_reducible refine pws_seq ?_ | with_reducible refine pws_skip ?_ | with_reducible refine pws_block ?_ | ((with_reducible refine pws_regk fun K' S hK' hS => ?_); simp [argSlots, *]) | ((with_reducible refine Goes.go hK' ?_); clear hK' hS; clear K' S) | ((with_reducible refine pws_true ?_ ?_); (· simp; done)) | ((with_reducible refine pws_false ?_ ?_); (· simp; done)) | with_reducible refine blk_normal ?_ | with_reducible refine thenQ_normal ?_ | with_reducible refine pws_nil ?_)
        refine hK _ ⟨k + 1, by omega⟩ (ent_sub rfl rfl rfl (by simp [SubL, *]) (by simp only [SubL, hts, hG]; simp [SubL, *]) (by simp) (by simp) (by simp [slotsBelow, SV.lo, belowL]) (by simp [heapBelow, ABlk.lo, SV.lo, belowL, slotsBelow])) hd' (by simp; omega)
  · obtain rfl : k = F.length := by omega
    have hcb : costBad F = false := by
      rw [← hok]
      simp
    have hg : confG R F = ⟨F.length, F.map Fc.cost, edgeL R F⟩ := by simp [confG, hcb]
    have he : confE F = 0 := by simp [confE, hcb]
    have htk : (F.map Fc.cost).take F.length = F.map Fc.cost := List.take_of_length_le (by simp)
    have hvl := viol_len (R := R) hF
    rw [htk]
    have hvi := dViolations_ok R F hR hlR hF
    have hes := edges_sets3 R F
    have hmi := minimal_pc 87 caC (HC R F (violL R F)) (singles (dangL R F) ++ violL R F) (conf_it R F (violL R F) hF (by omega)) (hes.small hF) hes.three (hes.dd hF) 6 [(4, .arr 3 1 F.length false (ints (F.map Fc.cost))), (3, .box [sint F.length, .loc 1 4 F.length 0 F.length, .pv (.lit (.slice none 0 0))]), (2, .box [sint 0, .pv (.lit (.slice none 0 0)), .pv (.lit (.slice none 0 0))])] (fun i b h => by
      simp only [HC, lk] at h ⊢
      (repeat' split at h) <;> first | (subst_vars; rfl) | cases h)
    have hmi : PC Tryz.prog 81 [.clos 87 caC] 6 (HC R F (violL R F) ++ [(4, .arr 3 1 F.length false (ints (F.map Fc.cost))), (3, .box [sint F.length, .loc 1 4 F.length 0 F.length, .pv (.lit (.slice none 0 0))]), (2, .box [sint 0, .pv (.lit (.slice none 0 0)), .pv (.lit (.slice none 0 0))])]) (fun sv _ H' => sv = .pv (.sl 1 (psets (edgeL R F))) ∧ H' = [(4, .arr 3 1 F.length false (ints (F.map Fc.cost))), (3, .box [sint F.length, .loc 1 4 F.length 0 F.length, .pv (.lit (.slice none 0 0))]), (2, .box [sint 0, .pv (.lit (.slice none 0 0)), .pv (.lit (.slice none 0 0))])]) := hmi
    clear hK hok hes hcb hvl
    have hcl : (F.map Fc.cost).length = F.length := by simp
    generalize F.map Fc.cost = Cst at *
    generalize violL R F = v at *
    generalize edgeL R F = E at *
    repeat' (first | with_reducible refine pws_seq ?_ | with_reducible refine pws_skip ?_ | ((with_reducible refine pws_regk fun K' S hK' hS => ?_); simp [argSlots, *]) | ((with_reducible refine Goes.go hK' ?_); clear hK' hS; clear K' S) | ((with_reducible refine GoesS.go hS ?_); clear hK' hS; clear K' S) | ((with_reducible refine pws_false ?_ ?_); (· simp; done)) | with_reducible refine blk_same ?_ | with_reducible refine thenQ_exit ?_ | with_reducible refine pws_exit ?_ | ((with_reducible refine pwl_callk (c := ?_) (x := ?_) (f := ?_) (svs := ?_) (cs := ?_) (Qr := ?_) false ?_ ?_ ?_ ?_ ?_ ?_ ?_ ?_ ?_); rotate_left 6; (· (simp [argSlots, *]; done)); (· rfl); (· rfl); (· (simp; with_reducible rfl)); (· (simp; with_reducible rfl)); (· first | (simp [bors, bor]; with_reducible rfl) | (simp [bors, bor, *]; with_reducible rfl)); (· rfl); (· ((with_reducible refine hvi))); (rintro sv hsv hsc; clear hsc; obtain rfl := hsv; refine ⟨(by first | (intro _; rfl) | (intro h; cases h)), ?_⟩; refine pwl_runk fun K' S hK' hS => ?_; simp [argSlots, *])))
    refine pwl_callpk (c := ?_) (x := ?_) (f := 81) (caps := []) (svs := [.clos 87 caC]) (own := []) (Hs := HC R F v ++ [(4, .arr 3 1 F.length false (ints Cst)), (3, .box [sint F.length, .loc 1 4 F.length 0 F.length, .pv (.lit (.slice none 0 0))]), (2, .box [sint 0, .pv (.lit (.slice none 0 0)), .pv (.lit (.slice none 0 0))])]) (Qr := _) ?_ ?_ ?_ ?_ ?_ ?_ (fun i b h => by simp only [List.cons_append, List.nil_append, lk] at h ⊢; (repeat' split at h) <;> (try subst_vars) <;> first | (simp_all; done) | (simp_all; omega) | (exfalso; omega)) (fun i b h => by simp only [List.cons_append, List.nil_append, lk] at h ⊢; (repeat' split at h) <;> (try subst_vars) <;> first | (subst_vars; simp [*]; done) | (simp_all; done) | (simp_all; omega)) (by exact hmi) ?_; rotate_left 2; (· first | rfl | (simp [*]; done)); (· rfl); (· rfl); (· first | rfl | (simp; done)); (· first | rfl | (simp; done)); (· rfl); rintro sv nx' H' hq hn hd
    obtain ⟨rfl, rfl⟩ := hq
    clear hmi hd hn
    refine pwl_runk fun K' S hK' hS => ?_; simp [*]
    repeat' (first | with_reducible refine pws_seq ?_ | ((with_reducible refine pws_regk fun K' S hK' hS => ?_); simp [argSlots, *]) | ((with_reducible refine Goes.go hK' ?_); clear hK' hS; clear K' S) | ((with_reducible refine GoesS.go hS ?_); clear hK' hS; clear K' S))
    refine ent_frzs' [.loc 1 4 F.length 0 0] ?_
    refine pwl_runk fun K' S hK' hS => ?_
    simp [*]
    repeat' (first | ((with_reducible refine Goes.go hK' ?_); clear hK' hS; clear K' S) | with_reducible refine pws_ret ?_)
    refine finC_ret (vs := ?_) [] (.inr rfl) rfl ?_ ?_ ?_
    rotate_left
    · simp [Tryz.results30, resL, resOf]; rfl
    · simp [wrapRes, cv, SV.const, constL]
    · have htk2 : List.take F.length (ints Cst) = ints Cst := List.take_of_length_le (by simp [hcl])
      simp [wrapRes, cv, hg, he, htk2]
      (repeat' (first | exact SLs.nil | refine SLs.cons ?_ ?_ | with_reducible exact SLe.refl _))
end
end Go.Proofs.T1
/- The example of head: facts, rules, and what is computed of them. -/
namespace Go.Proofs.T1
open Go.Vc
def txV (c : UInt8) : V := ⟨1, 0, ⟨#[c]⟩⟩
def nmV2 (n : Int) : V := ⟨2, n, ⟨#[]⟩⟩
def F0 : List Fc := [⟨0, 0, 0, [txV 120, nmV2 1], 0, []⟩, ⟨0, 1, 0, [txV 120, nmV2 2], 0, []⟩, ⟨0, 2, 0, [txV 121, nmV2 1], 0, []⟩]
def F1 : List Fc := [⟨0, 0, 0, [txV 120, nmV2 1], 0, []⟩, ⟨0, 1, 0, [txV 120, nmV2 2], 0, []⟩, ⟨0, 1, 1, [txV 121, nmV2 1], 0, []⟩]
def sdN : Sd := ⟨0, 1, V.z⟩
def sdM : Sd := ⟨1, 1, V.z⟩
def sdOne : Sd := ⟨-1, 0, nmV2 1⟩
def sdTwo : Sd := ⟨-1, 0, nmV2 2⟩
def rUniq : Rl := ⟨1, ⟨#[]⟩, 0, [0], 0, [], 0, 0, [], []⟩
def rDep : Rl := ⟨2, ⟨#[]⟩, 0, [0], 1, [], 0, 0, [], []⟩
def rFix : Rl := ⟨2, ⟨#[]⟩, 0, [0], 1, [⟨1, nmV2 1⟩], 0, 0, [], []⟩
def rLow : Rl := ⟨4, ⟨#[]⟩, 0, [], 0, [], 0, 0, [0], [⟨sdN, 3, sdTwo, 0⟩]⟩
def rLess : Rl := ⟨4, ⟨#[]⟩, 0, [], 0, [], 0, 0, [0, 0], [⟨sdN, 3, sdM, 0⟩]⟩
def rIn : Rl := ⟨3, ⟨#[]⟩, 0, [], 0, [], 0, 1, [], []⟩
def rUniq1 : Rl := ⟨1, ⟨#[]⟩, 0, [1], 0, [], 0, 0, [], []⟩
theorem viol_of {R : List Rl} {F : List Fc} {v : List (List Int)} (h : minC (wits R F (allI F.length)) = v) : violL R F = v := (violL_comp R F).trans h
theorem h_uniq : violL [rUniq] F0 = [[0, 1]] := viol_of (by decide +kernel)
theorem h_dep : violL [rDep] F0 = [[0, 1]] := viol_of (by decide +kernel)
theorem h_fix : violL [rFix] F0 = [] := viol_of (by decide +kernel)
theorem h_low : violL [rLow] F0 = [[0], [2]] := viol_of (by decide +kernel)
theorem h_less : violL [rLess] F0 = [[0, 1], [1, 2]] := viol_of (by decide +kernel)
theorem h_in : violL [rIn] F0 = [] := viol_of (by decide +kernel)
theorem h_uniq1 : violL [rUniq1] F1 = [[0, 2], [1, 2]] := viol_of (by decide +kernel)
theorem dang_of {R : List Rl} {F : List Fc} {v : List Int} (h : (R.all fun r => (List.range F.length).all fun k => okB F (dIterC R F 3 (List.replicate F.length false)) r k) = true) (h2 : (allI F.length).filter (fun x => gone (dIterC R F 3 (List.replicate F.length false)) x.toNat) = v) : dangL R F = v := (dang_comp 3 h).trans h2
theorem h_dang : dangL [rIn] F0 = [0, 1, 2] := dang_of (by decide +kernel) (by decide +kernel)
theorem h_dang2 : dangL [rIn, rUniq] F0 = [0, 1, 2] := dang_of (by decide +kernel) (by decide +kernel)
theorem h_viol2 : violL [rIn, rUniq] F0 = [[0, 1]] := viol_of (by decide +kernel)
theorem h_edge : edgeL [rIn, rUniq] F0 = [[0], [1], [2]] := by
  unfold edgeL
  rw [h_dang2, h_viol2, minL_comp]
  decide +kernel
theorem h_edge' : edgeL [rIn, rUniq] [⟨0, 0, 0, [txV 120, nmV2 1], 0, []⟩, ⟨0, 1, 0, [txV 120, nmV2 2], 0, []⟩, ⟨0, 2, 0, [txV 121, nmV2 1], 0, []⟩] = [[0], [1], [2]] := h_edge
theorem h_cons : consL [rUniq] F1 [0] = true := consL_iff.2 ⟨setP_iff.2 ⟨by simp, by simp [F1]⟩, (wits_nil (by simp)).1 (by decide +kernel)⟩
theorem h_cons2 : consL [rUniq] F1 [0, 1] = false := consL_false (Classical.byContradiction fun h => by
  have h1 := (wits_nil (R := [rUniq]) (F := F1) (cs := [0, 1]) (by simp)).2 h
  have h2 : wits [rUniq] F1 [0, 1] ≠ [] := by decide +kernel
  exact h2 h1)
end Go.Proofs.T1
namespace Go.Proofs.T1
open Go.Vc
open Tryz
set_option linter.unusedSimpArgs false
set_option linter.unusedVariables false
set_option maxHeartbeats 4000000
set_option maxRecDepth 20000
attribute [local simp] runD_nil runD_cons runDO runDG runDV stabs stabO stabG runK_nil runK_cons runG_t runG_f runS_some runS_none gate dstOf step2 step1 vq vop vlook mput mfind isKeyB keq fin1 hbox halloc hstore hbuild hbuildSlice happend hmake vslice bound vbuild partsOf elemsOf inOrder topvs toPV svCells splice srcOf isNil St.ev St.evs St.fits St.put St.new St.upd St.frzs St.frz lk hset litOf vbuiltin vlen vbin vindex vfield vload rdc pvs capsOf Value.oneCell'
attribute [local simp] tsz3 tagg3 tbytes3 tint3 tzero3 tzero1_3 tsz4 tagg4 tbytes4 tbool4 tzero4 tzero1_4 tsz5 tagg5 tbytes5 tint5 tzero5 tzero1_5 tsz9 tagg9 tbytes9 tstr9 tzero9 tzero1_9 tsz22 tagg22 tel22 tbytes22 tzero22 tzero1_22 tsz23 tagg23 tel23 tbytes23 tzero23 tzero1_23 tsz24 tagg24 tel24 tbytes24 tzero24 tzero1_24 tsz25 tagg25 tbytes25 tzero25 tzero1_25 tsz29 tagg29 tel29 tbytes29 tzero29 tzero1_29 tsz30 tagg30 tel30 tbytes30 tzero30 tzero1_30 tsz32 tagg32 tbytes32 tzero32 foff32_0 foff32_1 foff32_2 foff32_3 foff32_4 foff32_5 foff32_6 foff32_7 foff32_8 foff32_9 tsz33 tagg33 tel33 tbytes33 tzero33 tzero1_33 tsz34 tagg34 tbytes34 tint34 tzero34 tzero1_34 tsz38 tagg38 tbytes38 tzero38 foff38_0 foff38_1 foff38_2 tsz47 tagg47 tel47 tbytes47 tzero47 tzero1_47 tsz52 tagg52 tel52 tbytes52 tzero52 tzero1_52 tsz54 tagg54 tbytes54 tzero54 foff54_0 foff54_1 foff54_2 foff54_3 foff54_4 foff54_5 tsz79 tagg79 tbytes79 tzero79 foff79_0 foff79_1 foff79_2 tsz117 tagg117 tbytes117 tzero117 foff117_0 foff117_1 foff117_2 tsz119 tagg119 tbytes119 tzero119 foff119_0 foff119_1 tsz121 tagg121 tbytes121 tzero121 foff121_0 foff121_1 foff121_2 foff121_3 tsz129 tagg129 tbytes129 tzero129 tzero1_129 tsz130 tagg130 tbytes130 tzero130 tzero1_130 tsz132 tagg132 tbytes132 tzero132 tzero1_132 tsz206 tagg206 tbytes206 tzero206 tzero1_206 mtype206 tsz208 tagg208 tbytes208 tsz217 tagg217 tel217 tbytes217 tzero217 tzero1_217 tsz220 tagg220 tbytes220 tzero220 foff220_0 foff220_1 tsz235 tagg235 tel235 tbytes235 tzero235 tzero1_235 tsz256 tagg256 tbytes256 tzero256 tzero1_256 mtype256 tsz351 tagg351 tbytes351 tzero351 tsz2 tagg2 tbytes2 tint2 tzero2 tzero1_2 tsz291 tagg291 tbytes291 tint291 tzero291 tzero1_291 sized32 places32_0 places32_1 places32_2 places32_3 places32_4 places32_5 places32_6 places32_7 places32_8 places32_9 sized38 places38_0 places38_1 places38_2 sized54 places54_0 places54_1 places54_2 places54_3 places54_4 places54_5 sized79 places79_0 places79_1 places79_2 sized117 places117_0 places117_1 places117_2 sized119 places119_0 places119_1 sized121 places121_0 places121_1 places121_2 places121_3 sized220 places220_0 places220_1
section
attribute [local simp] V.c V.z Sd.c Tst.c Fx.c Rl.c Fc.c Gr.c wrap1f take_map_len take_map_len1 wrap1 wrap2 wrap3
theorem enters23 : Enters Tryz.prog 23 := enters_mk Tryz.func23 (by kernel_rfl) (by kernel_rfl)
theorem enters77 : Enters Tryz.prog 77 := enters_mk Tryz.func77 (by kernel_rfl) (by kernel_rfl)
theorem enters78 : Enters Tryz.prog 78 := enters_mk Tryz.func78 (by kernel_rfl) (by kernel_rfl)
theorem txt_ok (t : ByteArray) : CC Tryz.prog 140 [sstr t] (fun sv => sv = .agg (pval 1 0 t)) := by
  refine cc_of_pw Tryz.func140 rfl enters140 Tryz.ntmps140 (by simp) (pw_of_pws ?_)
  repeat' (first | with_reducible refine pws_seq ?_ | ((with_reducible refine pws_regk fun K' S hK' hS => ?_); simp [argSlots, *]) | ((with_reducible refine Goes.go hK' ?_); clear hK' hS; clear K' S) | with_reducible refine pws_ret ?_)
  all_goals (refine finC_ret (vs := ?_) [] (by first | exact .inr rfl | exact .inl rfl) rfl ?_ ?_ ?_; rotate_left; (· simp [Tryz.results140, resL, resOf]; rfl); (· first | rfl | (simp [wrapRes, cv, SV.const, constL]; done)); (· first | (simp [wrapRes, cv, *]; done) | (simp [wrapRes, cv, *]; grind) | (simp [wrapRes, cv, *]; omega)))
theorem num_ok (n : Int) : CC Tryz.prog 141 [sint n] (fun sv => sv = .agg (pval 2 n ⟨#[]⟩)) := by
  refine cc_of_pw Tryz.func141 rfl enters141 Tryz.ntmps141 (by simp) (pw_of_pws ?_)
  repeat' (first | with_reducible refine pws_seq ?_ | ((with_reducible refine pws_regk fun K' S hK' hS => ?_); simp [argSlots, *]) | ((with_reducible refine Goes.go hK' ?_); clear hK' hS; clear K' S) | with_reducible refine pws_ret ?_)
  all_goals (refine finC_ret (vs := ?_) [] (by first | exact .inr rfl | exact .inl rfl) rfl ?_ ?_ ?_; rotate_left; (· simp [Tryz.results141, resL, resOf]; rfl); (· first | rfl | (simp [wrapRes, cv, SV.const, constL]; done)); (· first | (simp [wrapRes, cv, *]; done) | (simp [wrapRes, cv, *]; grind) | (simp [wrapRes, cv, *]; omega)))
/-- The facts of the example, as they lie there. -/
abbrev pf0 : List (List PV) := [[pint 0, pint 0, pint 0, .sl 3 [pval 1 0 ⟨#[120]⟩, pval 2 1 ⟨#[]⟩], pint 0, .lit (.slice none 0 0)], [pint 0, pint 1, pint 0, .sl 3 [pval 1 0 ⟨#[120]⟩, pval 2 2 ⟨#[]⟩], pint 0, .lit (.slice none 0 0)], [pint 0, pint 2, pint 0, .sl 3 [pval 1 0 ⟨#[121]⟩, pval 2 1 ⟨#[]⟩], pint 0, .lit (.slice none 0 0)]]
theorem facts_pc : PC Tryz.prog 77 [] 0 [] (fun sv nx' H' => sv = .loc 6 3 0 0 3 ∧ nx' = 4 ∧ H' = [(3, .arr 54 6 0 false pf0)]) := by
  refine PC.drop (Q := fun sv nx' H2 => sv = .loc 6 3 0 0 3 ∧ nx' = 4 ∧ ∃ z, H2 = (3, .arr 54 6 0 false pf0) :: z) ?_ (fun sv nx' H2 ⟨a, b, z, c⟩ => ⟨_, ⟨a, b, rfl⟩, fun i b hl => by
    rw [c]
    simp only [lk] at hl ⊢
    split at hl
    · rename_i e; rw [if_pos e]; exact hl
    · cases hl⟩)
  refine pc_of_pw' (fn := Tryz.f77) Tryz.func77 rfl enters77 Tryz.ntmps77 (by simp [capRefs]) (pw_of_pws ?_)
  repeat' (first | with_reducible refine pws_seq ?_ | ((with_reducible refine pws_regk fun K' S hK' hS => ?_); simp [argSlots, *]) | ((with_reducible refine Goes.go hK' ?_); clear hK' hS; clear K' S) | ((with_reducible refine GoesS.go hS ?_); clear hK' hS; clear K' S) | with_reducible refine pws_ret ?_ | ((with_reducible refine pwl_callk (c := ?_) (x := ?_) (f := ?_) (svs := ?_) (cs := ?_) (Qr := ?_) true ?_ ?_ ?_ ?_ ?_ ?_ ?_ ?_ ?_); rotate_left 6; (· (simp [argSlots, *]; done)); (· rfl); (· rfl); (· (simp; with_reducible rfl)); (· (simp; with_reducible rfl)); (· first | (simp [bors, bor]; with_reducible rfl) | (simp [bors, bor, *]; with_reducible rfl)); (· rfl); (· ((with_reducible refine txt_ok _))); (rintro sv hsv hsc; clear hsc; obtain rfl := hsv; refine ⟨(by first | (intro _; rfl) | (intro h; cases h)), ?_⟩; refine pwl_runk fun K' S hK' hS => ?_; simp [argSlots, *])) | ((with_reducible refine pwl_callk (c := ?_) (x := ?_) (f := ?_) (svs := ?_) (cs := ?_) (Qr := ?_) true ?_ ?_ ?_ ?_ ?_ ?_ ?_ ?_ ?_); rotate_left 6; (· (simp [argSlots, *]; done)); (· rfl); (· rfl); (· (simp; with_reducible rfl)); (· (simp; with_reducible rfl)); (· first | (simp [bors, bor]; with_reducible rfl) | (simp [bors, bor, *]; with_reducible rfl)); (· rfl); (· ((with_reducible refine num_ok _))); (rintro sv hsv hsc; clear hsc; obtain rfl := hsv; refine ⟨(by first | (intro _; rfl) | (intro h; cases h)), ?_⟩; refine pwl_runk fun K' S hK' hS => ?_; simp [argSlots, *])))
  refine finP_ret (vs := ?_) [] (.inr rfl) rfl ?_ ?_
  rotate_left
  · simp [Tryz.results77, resL, resOf]; rfl
  · exact ⟨by simp [wrapRes, cv, toPV, lk, St.frzs], rfl, _, rfl⟩
theorem is_ok (r : Rl) (F : List Fc) (want : List (List Int)) (hR : Okr r) (hF : F.length ≤ 12) : CC Tryz.prog 78 [.agg r.c, .pv (.sl 6 (pfacts F)), .pv (.sl 1 (psets want))] (fun sv => sv = sbool (setsEq (violL [r] F) want)) := by
  have hvi := dViolations_ok [r] F (fun x hx => by simp at hx; subst hx; exact hR) (by simp) hF
  have hvi : CC Tryz.prog 28 [.pv (.sl 10 [r.c]), .pv (.sl 6 (pfacts F))] (fun sv => sv = .tup [.pv (.sl 1 (psets (violL [r] F))), sint 0]) := hvi
  refine cc_of_pw Tryz.func78 rfl enters78 Tryz.ntmps78 (by simp) (pw_of_pws ?_)
  generalize violL [r] F = v at *
  repeat' (first | with_reducible refine pws_seq ?_ | ((with_reducible refine pws_regk fun K' S hK' hS => ?_); simp [argSlots, *]) | ((with_reducible refine Goes.go hK' ?_); clear hK' hS; clear K' S) | ((with_reducible refine GoesS.go hS ?_); clear hK' hS; clear K' S))
  refine ent_frzs' [.loc 10 1 0 0 1] ?_
  refine pwl_runk fun K' S hK' hS => ?_
  simp [*]
  repeat' (first | with_reducible refine pws_seq ?_ | ((with_reducible refine pws_regk fun K' S hK' hS => ?_); simp [argSlots, *]) | ((with_reducible refine Goes.go hK' ?_); clear hK' hS; clear K' S) | ((with_reducible refine GoesS.go hS ?_); clear hK' hS; clear K' S) | with_reducible refine pws_ret ?_ | ((with_reducible refine pwl_callk (c := ?_) (x := ?_) (f := ?_) (svs := ?_) (cs := ?_) (Qr := ?_) false ?_ ?_ ?_ ?_ ?_ ?_ ?_ ?_ ?_); rotate_left 6; (· (simp [argSlots, *]; done)); (· rfl); (· rfl); (· (simp; with_reducible rfl)); (· (simp; with_reducible rfl)); (· first | (simp [bors, bor]; with_reducible rfl) | (simp [bors, bor, *]; with_reducible rfl)); (· rfl); (· ((with_reducible refine hvi))); (rintro sv hsv hsc; clear hsc; obtain rfl := hsv; refine ⟨(by first | (intro _; rfl) | (intro h; cases h)), ?_⟩; refine pwl_runk fun K' S hK' hS => ?_; simp [argSlots, *])) | ((with_reducible refine pwl_callk (c := ?_) (x := ?_) (f := ?_) (svs := ?_) (cs := ?_) (Qr := ?_) true ?_ ?_ ?_ ?_ ?_ ?_ ?_ ?_ ?_); rotate_left 6; (· (simp [argSlots, *]; done)); (· rfl); (· rfl); (· (simp; with_reducible rfl)); (· (simp; with_reducible rfl)); (· first | (simp [bors, bor]; with_reducible rfl) | (simp [bors, bor, *]; with_reducible rfl)); (· rfl); (· ((with_reducible refine sets_ok _ _))); (rintro sv hsv hsc; clear hsc; obtain rfl := hsv; refine ⟨(by first | (intro _; rfl) | (intro h; cases h)), ?_⟩; refine pwl_runk fun K' S hK' hS => ?_; simp [argSlots, *])))
  all_goals (refine finC_ret (vs := ?_) [] (by first | exact .inr rfl | exact .inl rfl) rfl ?_ ?_ ?_; rotate_left; (· simp [Tryz.results78, resL, resOf]; rfl); (· first | rfl | (simp [wrapRes, cv, SV.const, constL]; done)); (· first | (simp [wrapRes, cv, *]; done) | (simp [wrapRes, cv, *]; grind) | (simp [wrapRes, cv, *]; omega)))
theorem av_lit {E : Nat → Prop} {xs : List Int} (h : ¬ E 1) : Av E (.sl 1 (ints xs)) := .sl _ _ h fun x hx p hp => by
  obtain ⟨n, _, rfl⟩ := List.mem_map.1 hx
  simp at hp
  subst hp
  exact .lit _
theorem av_sets {E : Nat → Prop} {xs : List (List Int)} (h : ¬ E 1) : Av E (.sl 1 (psets xs)) := .sl _ _ h fun x hx p hp => by
  obtain ⟨n, _, rfl⟩ := List.mem_map.1 hx
  simp at hp
  subst hp
  exact av_lit h
abbrev E6 : Nat → Prop := fun n => n = 6 ∨ n = 10
theorem head_ok : CC Tryz.prog 23 [] (fun sv => sv = sbool true) := by
  have c1 := is_ok rUniq F0 [[0, 1]] (by simp [Okr, rUniq]) (by simp [F0])
  rw [h_uniq, show setsEq [[0, 1]] [[0, 1]] = true from by decide] at c1
  simp only [rUniq, rDep, rFix, rLow, rLess, rIn, rUniq1, F0, F1, txV, nmV2, sdN, sdM, sdOne, sdTwo, V.z, Rl.c, Fc.c, V.c, Tst.c, Sd.c, Fx.c, List.map, List.map_cons, List.map_nil] at c1
  have c2 := is_ok rDep F0 [[0, 1]] (by simp [Okr, rDep]) (by simp [F0])
  rw [h_dep, show setsEq [[0, 1]] [[0, 1]] = true from by decide] at c2
  simp only [rUniq, rDep, rFix, rLow, rLess, rIn, rUniq1, F0, F1, txV, nmV2, sdN, sdM, sdOne, sdTwo, V.z, Rl.c, Fc.c, V.c, Tst.c, Sd.c, Fx.c, List.map, List.map_cons, List.map_nil] at c2
  have c3 := is_ok rFix F0 [] (by simp [Okr, rFix]) (by simp [F0])
  rw [h_fix, show setsEq [] [] = true from by decide] at c3
  simp only [rUniq, rDep, rFix, rLow, rLess, rIn, rUniq1, F0, F1, txV, nmV2, sdN, sdM, sdOne, sdTwo, V.z, Rl.c, Fc.c, V.c, Tst.c, Sd.c, Fx.c, List.map, List.map_cons, List.map_nil] at c3
  have c4 := is_ok rLow F0 [[0], [2]] (by simp [Okr, rLow]) (by simp [F0])
  rw [h_low, show setsEq [[0], [2]] [[0], [2]] = true from by decide] at c4
  simp only [rUniq, rDep, rFix, rLow, rLess, rIn, rUniq1, F0, F1, txV, nmV2, sdN, sdM, sdOne, sdTwo, V.z, Rl.c, Fc.c, V.c, Tst.c, Sd.c, Fx.c, List.map, List.map_cons, List.map_nil] at c4
  have c5 := is_ok rLess F0 [[0, 1], [1, 2]] (by simp [Okr, rLess]) (by simp [F0])
  rw [h_less, show setsEq [[0, 1], [1, 2]] [[0, 1], [1, 2]] = true from by decide] at c5
  simp only [rUniq, rDep, rFix, rLow, rLess, rIn, rUniq1, F0, F1, txV, nmV2, sdN, sdM, sdOne, sdTwo, V.z, Rl.c, Fc.c, V.c, Tst.c, Sd.c, Fx.c, List.map, List.map_cons, List.map_nil] at c5
  have c6 := is_ok rIn F0 [] (by simp [Okr, rIn]) (by simp [F0])
  rw [h_in, show setsEq [] [] = true from by decide] at c6
  simp only [rUniq, rDep, rFix, rLow, rLess, rIn, rUniq1, F0, F1, txV, nmV2, sdN, sdM, sdOne, sdTwo, V.z, Rl.c, Fc.c, V.c, Tst.c, Sd.c, Fx.c, List.map, List.map_cons, List.map_nil] at c6
  have c7 := is_ok rUniq1 F1 [[0, 2], [1, 2]] (by simp [Okr, rUniq1]) (by simp [F1])
  rw [h_uniq1, show setsEq [[0, 2], [1, 2]] [[0, 2], [1, 2]] = true from by decide] at c7
  simp only [rUniq, rDep, rFix, rLow, rLess, rIn, rUniq1, F0, F1, txV, nmV2, sdN, sdM, sdOne, sdTwo, V.z, Rl.c, Fc.c, V.c, Tst.c, Sd.c, Fx.c, List.map, List.map_cons, List.map_nil] at c7
  have cd := dDangling_ok [rIn] F0 (by simp [F0])
  rw [h_dang] at cd
  simp only [rUniq, rDep, rFix, rLow, rLess, rIn, rUniq1, F0, F1, txV, nmV2, sdN, sdM, sdOne, sdTwo, V.z, Rl.c, Fc.c, V.c, Tst.c, Sd.c, Fx.c, List.map, List.map_cons, List.map_nil] at cd
  have ck := dConflicts_ok [rIn, rUniq] F0 (by intro r hr; simp at hr; rcases hr with rfl | rfl <;> simp [Okr, rIn, rUniq]) (by simp) (by simp [F0])
  rw [show confG [rIn, rUniq] F0 = ⟨3, [0, 0, 0], [[0], [1], [2]]⟩ from by simp [confG, costBad, F0, h_edge'], show confE F0 = 0 from by simp [confE, costBad, F0]] at ck
  simp only [rUniq, rDep, rFix, rLow, rLess, rIn, rUniq1, F0, F1, txV, nmV2, sdN, sdM, sdOne, sdTwo, V.z, Rl.c, Fc.c, V.c, Tst.c, Sd.c, Fx.c, List.map, List.map_cons, List.map_nil] at ck
  have cc1 := consistent_ok [rUniq] F1 [0] (by intro r hr; simp at hr; subst hr; simp [Okr, rUniq]) (by simp) (by simp [F1])
  rw [h_cons] at cc1
  simp only [rUniq, rDep, rFix, rLow, rLess, rIn, rUniq1, F0, F1, txV, nmV2, sdN, sdM, sdOne, sdTwo, V.z, Rl.c, Fc.c, V.c, Tst.c, Sd.c, Fx.c, List.map, List.map_cons, List.map_nil] at cc1
  have cc2 := consistent_ok [rUniq] F1 [0, 1] (by intro r hr; simp at hr; subst hr; simp [Okr, rUniq]) (by simp) (by simp [F1])
  rw [h_cons2] at cc2
  simp only [rUniq, rDep, rFix, rLow, rLess, rIn, rUniq1, F0, F1, txV, nmV2, sdN, sdM, sdOne, sdTwo, V.z, Rl.c, Fc.c, V.c, Tst.c, Sd.c, Fx.c, List.map, List.map_cons, List.map_nil] at cc2
  have ci := ints_ok [0, 1, 2] [0, 1, 2]
  rw [show (!lexLt [0, 1, 2] [0, 1, 2] && !lexLt [0, 1, 2] [0, 1, 2]) = true from by decide] at ci
  simp only [List.map_cons, List.map_nil] at ci
  have cs := sets_ok [[0], [1], [2]] [[0], [1], [2]]
  rw [show setsEq [[0], [1], [2]] [[0], [1], [2]] = true from by decide] at cs
  simp only [List.map_cons, List.map_nil] at cs
  refine cc_of_pw Tryz.func23 rfl enters23 Tryz.ntmps23 (by simp) (pw_of_pws ?_)
  repeat' (first | with_reducible refine pws_seq ?_ | ((with_reducible refine pws_regk fun K' S hK' hS => ?_); simp [argSlots, *]) | ((with_reducible refine Goes.go hK' ?_); clear hK' hS; clear K' S) | ((with_reducible refine GoesS.go hS ?_); clear hK' hS; clear K' S))
  refine pwl_callpk (c := ?_) (x := ?_) (f := 77) (caps := []) (svs := []) (own := []) (Hs := []) (Qr := _) ?_ ?_ ?_ ?_ ?_ ?_ (fun i b h => h) (fun i b h => by cases h) (by exact facts_pc) ?_
  rotate_left 2
  · first | rfl | (simp; done)
  · rfl
  · rfl
  · rfl
  · rfl
  · rfl
  rintro sv nx' H' ⟨rfl, rfl, rfl⟩ hn hd
  clear hn hd
  refine pwl_runk fun K' S hK' hS => ?_; simp [*]
  repeat' (first | with_reducible refine pws_seq ?_ | ((with_reducible refine pws_regk fun K' S hK' hS => ?_); simp [argSlots, *]) | ((with_reducible refine Goes.go hK' ?_); clear hK' hS; clear K' S) | ((with_reducible refine GoesS.go hS ?_); clear hK' hS; clear K' S) | ((with_reducible refine pwl_callk' (c := ?_) (x := ?_) (f := ?_) (svs := ?_) (cs := ?_) (cs' := ?_) (Qr := ?_) true ?_ ?_ ?_ ?_ ?_ ?_ ?_ ?_ ?_ ?_); rotate_left 7; (· (simp [argSlots, *]; done)); (· rfl); (· rfl); (· (simp; with_reducible rfl)); (· (simp; with_reducible rfl)); (· first | (simp [bors, bor]; with_reducible rfl) | (simp [bors, bor, *]; with_reducible rfl)); (· rfl); (· ((with_reducible refine c1))); (· (repeat' (first | exact SLs.nil | refine SLs.cons ?_ ?_ | with_reducible exact SLe.refl _ | exact SLe.pv (PLe.nil _) | refine SLe.agg ?_ | refine SLe.pv (PLe.ofs ?_ (by simp)) | exact PLs.nil | refine PLs.cons ?_ ?_ | with_reducible exact PLe.refl _ | exact PLe.nil _ | refine PLe.ofs ?_ (by simp) | exact PLss.nil | with_reducible exact PLss.refl _ | refine PLss.cons ?_ ?_))); (rintro sv hsv hsc; clear hsc; obtain rfl := hsv; refine ⟨(by first | (intro _; rfl) | (intro h; cases h)), ?_⟩; refine pwl_runk fun K' S hK' hS => ?_; simp [argSlots, *])) | ((with_reducible refine pwl_callk' (c := ?_) (x := ?_) (f := ?_) (svs := ?_) (cs := ?_) (cs' := ?_) (Qr := ?_) true ?_ ?_ ?_ ?_ ?_ ?_ ?_ ?_ ?_ ?_); rotate_left 7; (· (simp [argSlots, *]; done)); (· rfl); (· rfl); (· (simp; with_reducible rfl)); (· (simp; with_reducible rfl)); (· first | (simp [bors, bor]; with_reducible rfl) | (simp [bors, bor, *]; with_reducible rfl)); (· rfl); (· ((with_reducible refine c2))); (· (repeat' (first | exact SLs.nil | refine SLs.cons ?_ ?_ | with_reducible exact SLe.refl _ | exact SLe.pv (PLe.nil _) | refine SLe.agg ?_ | refine SLe.pv (PLe.ofs ?_ (by simp)) | exact PLs.nil | refine PLs.cons ?_ ?_ | with_reducible exact PLe.refl _ | exact PLe.nil _ | refine PLe.ofs ?_ (by simp) | exact PLss.nil | with_reducible exact PLss.refl _ | refine PLss.cons ?_ ?_))); (rintro sv hsv hsc; clear hsc; obtain rfl := hsv; refine ⟨(by first | (intro _; rfl) | (intro h; cases h)), ?_⟩; refine pwl_runk fun K' S hK' hS => ?_; simp [argSlots, *])) | ((with_reducible refine pwl_callk' (c := ?_) (x := ?_) (f := ?_) (svs := ?_) (cs := ?_) (cs' := ?_) (Qr := ?_) true ?_ ?_ ?_ ?_ ?_ ?_ ?_ ?_ ?_ ?_); rotate_left 7; (· (simp [argSlots, *]; done)); (· rfl); (· rfl); (· (simp; with_reducible rfl)); (· (simp; with_reducible rfl)); (· first | (simp [bors, bor]; with_reducible rfl) | (simp [bors, bor, *]; with_reducible rfl)); (· rfl); (· ((with_reducible refine c3))); (· (repeat' (first | exact SLs.nil | refine SLs.cons ?_ ?_ | with_reducible exact SLe.refl _ | exact SLe.pv (PLe.nil _) | refine SLe.agg ?_ | refine SLe.pv (PLe.ofs ?_ (by simp)) | exact PLs.nil | refine PLs.cons ?_ ?_ | with_reducible exact PLe.refl _ | exact PLe.nil _ | refine PLe.ofs ?_ (by simp) | exact PLss.nil | with_reducible exact PLss.refl _ | refine PLss.cons ?_ ?_))); (rintro sv hsv hsc; clear hsc; obtain rfl := hsv; refine ⟨(by first | (intro _; rfl) | (intro h; cases h)), ?_⟩; refine pwl_runk fun K' S hK' hS => ?_; simp [argSlots, *])) | ((with_reducible refine pwl_callk' (c := ?_) (x := ?_) (f := ?_) (svs := ?_) (cs := ?_) (cs' := ?_) (Qr := ?_) true ?_ ?_ ?_ ?_ ?_ ?_ ?_ ?_ ?_ ?_); rotate_left 7; (· (simp [argSlots, *]; done)); (· rfl); (· rfl); (· (simp; with_reducible rfl)); (· (simp; with_reducible rfl)); (· first | (simp [bors, bor]; with_reducible rfl) | (simp [bors, bor, *]; with_reducible rfl)); (· rfl); (· ((with_reducible refine c4))); (· (repeat' (first | exact SLs.nil | refine SLs.cons ?_ ?_ | with_reducible exact SLe.refl _ | exact SLe.pv (PLe.nil _) | refine SLe.agg ?_ | refine SLe.pv (PLe.ofs ?_ (by simp)) | exact PLs.nil | refine PLs.cons ?_ ?_ | with_reducible exact PLe.refl _ | exact PLe.nil _ | refine PLe.ofs ?_ (by simp) | exact PLss.nil | with_reducible exact PLss.refl _ | refine PLss.cons ?_ ?_))); (rintro sv hsv hsc; clear hsc; obtain rfl := hsv; refine ⟨(by first | (intro _; rfl) | (intro h; cases h)), ?_⟩; refine pwl_runk fun K' S hK' hS => ?_; simp [argSlots, *])) | ((with_reducible refine pwl_callk' (c := ?_) (x := ?_) (f := ?_) (svs := ?_) (cs := ?_) (cs' := ?_) (Qr := ?_) true ?_ ?_ ?_ ?_ ?_ ?_ ?_ ?_ ?_ ?_); rotate_left 7; (· (simp [argSlots, *]; done)); (· rfl); (· rfl); (· (simp; with_reducible rfl)); (· (simp; with_reducible rfl)); (· first | (simp [bors, bor]; with_reducible rfl) | (simp [bors, bor, *]; with_reducible rfl)); (· rfl); (· ((with_reducible refine c5))); (· (repeat' (first | exact SLs.nil | refine SLs.cons ?_ ?_ | with_reducible exact SLe.refl _ | exact SLe.pv (PLe.nil _) | refine SLe.agg ?_ | refine SLe.pv (PLe.ofs ?_ (by simp)) | exact PLs.nil | refine PLs.cons ?_ ?_ | with_reducible exact PLe.refl _ | exact PLe.nil _ | refine PLe.ofs ?_ (by simp) | exact PLss.nil | with_reducible exact PLss.refl _ | refine PLss.cons ?_ ?_))); (rintro sv hsv hsc; clear hsc; obtain rfl := hsv; refine ⟨(by first | (intro _; rfl) | (intro h; cases h)), ?_⟩; refine pwl_runk fun K' S hK' hS => ?_; simp [argSlots, *])) | ((with_reducible refine pwl_callk' (c := ?_) (x := ?_) (f := ?_) (svs := ?_) (cs := ?_) (cs' := ?_) (Qr := ?_) true ?_ ?_ ?_ ?_ ?_ ?_ ?_ ?_ ?_ ?_); rotate_left 7; (· (simp [argSlots, *]; done)); (· rfl); (· rfl); (· (simp; with_reducible rfl)); (· (simp; with_reducible rfl)); (· first | (simp [bors, bor]; with_reducible rfl) | (simp [bors, bor, *]; with_reducible rfl)); (· rfl); (· ((with_reducible refine c6))); (· (repeat' (first | exact SLs.nil | refine SLs.cons ?_ ?_ | with_reducible exact SLe.refl _ | exact SLe.pv (PLe.nil _) | refine SLe.agg ?_ | refine SLe.pv (PLe.ofs ?_ (by simp)) | exact PLs.nil | refine PLs.cons ?_ ?_ | with_reducible exact PLe.refl _ | exact PLe.nil _ | refine PLe.ofs ?_ (by simp) | exact PLss.nil | with_reducible exact PLss.refl _ | refine PLss.cons ?_ ?_))); (rintro sv hsv hsc; clear hsc; obtain rfl := hsv; refine ⟨(by first | (intro _; rfl) | (intro h; cases h)), ?_⟩; refine pwl_runk fun K' S hK' hS => ?_; simp [argSlots, *])))
  refine pwl_callx (c := ?_) (x := ?_) (f := 35) (svs := ?_) (cs := ?_) (Qr := fun sv => sv = .pv (.sl 1 (ints [0, 1, 2]))) E6 ?_ ?_ ?_ ?_ ?_ ?_ ?_ ?_ ?_ ?_
  rotate_left 4
  · simp; done
  · rfl
  · rfl
  · rfl
  · simp; with_reducible rfl
  · simp [bors, bor]; with_reducible rfl
  · simp
    rintro es id g off len (⟨rfl, -⟩ | ⟨rfl, -⟩)
    · exact .inr rfl
    · exact .inl rfl
  · rfl
  · refine CC.args cd ?_
    (repeat' (first | exact SLs.nil | refine SLs.cons ?_ ?_ | refine SLe.pv (PLe.ofs ?_ (by simp)) | exact PLs.nil | refine PLs.cons ?_ ?_ | with_reducible exact PLe.refl _ | exact PLe.nil _ | exact PLss.nil | refine PLss.cons ?_ ?_))
  rintro sv rfl -
  refine ⟨.pv _ (av_lit (by decide)), ?_⟩
  refine pwl_runk fun K' S hK' hS => ?_; simp [*]
  repeat' (first | with_reducible refine pws_seq ?_ | ((with_reducible refine pws_regk fun K' S hK' hS => ?_); simp [argSlots, *]) | ((with_reducible refine Goes.go hK' ?_); clear hK' hS; clear K' S) | ((with_reducible refine GoesS.go hS ?_); clear hK' hS; clear K' S))
  refine pwl_callx (c := ?_) (x := ?_) (f := 30) (svs := ?_) (cs := ?_) (Qr := fun sv => sv = .tup [.agg [pint 3, .sl 1 (ints [0, 0, 0]), .sl 1 (psets [[0], [1], [2]])], sint 0]) E6 ?_ ?_ ?_ ?_ ?_ ?_ ?_ ?_ ?_ ?_
  rotate_left 4
  · simp; done
  · rfl
  · rfl
  · rfl
  · simp; with_reducible rfl
  · simp [bors, bor]; with_reducible rfl
  · simp
    rintro es id g off len (⟨rfl, -⟩ | ⟨rfl, -⟩)
    · exact .inr rfl
    · exact .inl rfl
  · rfl
  · refine CC.args ck ?_
    (repeat' (first | exact SLs.nil | refine SLs.cons ?_ ?_ | refine SLe.pv (PLe.ofs ?_ (by simp)) | exact PLs.nil | refine PLs.cons ?_ ?_ | with_reducible exact PLe.refl _ | exact PLe.nil _ | exact PLss.nil | refine PLss.cons ?_ ?_))
  rintro sv rfl -
  refine ⟨.tup _ (fun sv h => ?_), ?_⟩
  · simp only [List.mem_cons, List.not_mem_nil, or_false] at h
    rcases h with rfl | rfl
    · refine .agg _ fun p hp => ?_
      simp only [List.mem_cons, List.not_mem_nil, or_false] at hp
      rcases hp with rfl | rfl | rfl
      · exact .lit _
      · exact av_lit (by decide)
      · exact av_sets (by decide)
    · exact .pv _ (.lit _)
  refine pwl_runk fun K' S hK' hS => ?_; simp [*]
  repeat' (first | with_reducible refine pws_seq ?_ | ((with_reducible refine pws_regk fun K' S hK' hS => ?_); simp [argSlots, *]) | ((with_reducible refine Goes.go hK' ?_); clear hK' hS; clear K' S) | ((with_reducible refine GoesS.go hS ?_); clear hK' hS; clear K' S) | with_reducible refine pws_ret ?_ | ((with_reducible refine pwl_callk' (c := ?_) (x := ?_) (f := ?_) (svs := ?_) (cs := ?_) (cs' := ?_) (Qr := ?_) true ?_ ?_ ?_ ?_ ?_ ?_ ?_ ?_ ?_ ?_); rotate_left 7; (· (simp [argSlots, *]; done)); (· rfl); (· rfl); (· (simp; with_reducible rfl)); (· (simp; with_reducible rfl)); (· first | (simp [bors, bor]; with_reducible rfl) | (simp [bors, bor, *]; with_reducible rfl)); (· rfl); (· ((with_reducible refine c7))); (· (repeat' (first | exact SLs.nil | refine SLs.cons ?_ ?_ | with_reducible exact SLe.refl _ | exact SLe.pv (PLe.nil _) | refine SLe.agg ?_ | refine SLe.pv (PLe.ofs ?_ (by simp)) | exact PLs.nil | refine PLs.cons ?_ ?_ | with_reducible exact PLe.refl _ | exact PLe.nil _ | refine PLe.ofs ?_ (by simp) | exact PLss.nil | with_reducible exact PLss.refl _ | refine PLss.cons ?_ ?_))); (rintro sv hsv hsc; clear hsc; obtain rfl := hsv; refine ⟨(by first | (intro _; rfl) | (intro h; cases h)), ?_⟩; refine pwl_runk fun K' S hK' hS => ?_; simp [argSlots, *])) | ((with_reducible refine pwl_callk' (c := ?_) (x := ?_) (f := ?_) (svs := ?_) (cs := ?_) (cs' := ?_) (Qr := ?_) true ?_ ?_ ?_ ?_ ?_ ?_ ?_ ?_ ?_ ?_); rotate_left 7; (· (simp [argSlots, *]; done)); (· rfl); (· rfl); (· (simp; with_reducible rfl)); (· (simp; with_reducible rfl)); (· first | (simp [bors, bor]; with_reducible rfl) | (simp [bors, bor, *]; with_reducible rfl)); (· rfl); (· ((with_reducible refine ci))); (· (repeat' (first | exact SLs.nil | refine SLs.cons ?_ ?_ | with_reducible exact SLe.refl _ | exact SLe.pv (PLe.nil _) | refine SLe.agg ?_ | refine SLe.pv (PLe.ofs ?_ (by simp)) | exact PLs.nil | refine PLs.cons ?_ ?_ | with_reducible exact PLe.refl _ | exact PLe.nil _ | refine PLe.ofs ?_ (by simp) | exact PLss.nil | with_reducible exact PLss.refl _ | refine PLss.cons ?_ ?_))); (rintro sv hsv hsc; clear hsc; obtain rfl := hsv; refine ⟨(by first | (intro _; rfl) | (intro h; cases h)), ?_⟩; refine pwl_runk fun K' S hK' hS => ?_; simp [argSlots, *])) | ((with_reducible refine pwl_callk' (c := ?_) (x := ?_) (f := ?_) (svs := ?_) (cs := ?_) (cs' := ?_) (Qr := ?_) true ?_ ?_ ?_ ?_ ?_ ?_ ?_ ?_ ?_ ?_); rotate_left 7; (· (simp [argSlots, *]; done)); (· rfl); (· rfl); (· (simp; with_reducible rfl)); (· (simp; with_reducible rfl)); (· first | (simp [bors, bor]; with_reducible rfl) | (simp [bors, bor, *]; with_reducible rfl)); (· rfl); (· ((with_reducible refine cs))); (· (repeat' (first | exact SLs.nil | refine SLs.cons ?_ ?_ | with_reducible exact SLe.refl _ | exact SLe.pv (PLe.nil _) | refine SLe.agg ?_ | refine SLe.pv (PLe.ofs ?_ (by simp)) | exact PLs.nil | refine PLs.cons ?_ ?_ | with_reducible exact PLe.refl _ | exact PLe.nil _ | refine PLe.ofs ?_ (by simp) | exact PLss.nil | with_reducible exact PLss.refl _ | refine PLss.cons ?_ ?_))); (rintro sv hsv hsc; clear hsc; obtain rfl := hsv; refine ⟨(by first | (intro _; rfl) | (intro h; cases h)), ?_⟩; refine pwl_runk fun K' S hK' hS => ?_; simp [argSlots, *])) | ((with_reducible refine pwl_callk' (c := ?_) (x := ?_) (f := ?_) (svs := ?_) (cs := ?_) (cs' := ?_) (Qr := ?_) true ?_ ?_ ?_ ?_ ?_ ?_ ?_ ?_ ?_ ?_); rotate_left 7; (· (simp [argSlots, *]; done)); (· rfl); (· rfl); (· (simp; with_reducible rfl)); (· (simp; with_reducible rfl)); (· first | (simp [bors, bor]; with_reducible rfl) | (simp [bors, bor, *]; with_reducible rfl)); (· rfl); (· ((with_reducible refine cc1))); (· (repeat' (first | exact SLs.nil | refine SLs.cons ?_ ?_ | with_reducible exact SLe.refl _ | exact SLe.pv (PLe.nil _) | refine SLe.agg ?_ | refine SLe.pv (PLe.ofs ?_ (by simp)) | exact PLs.nil | refine PLs.cons ?_ ?_ | with_reducible exact PLe.refl _ | exact PLe.nil _ | refine PLe.ofs ?_ (by simp) | exact PLss.nil | with_reducible exact PLss.refl _ | refine PLss.cons ?_ ?_))); (rintro sv hsv hsc; clear hsc; obtain rfl := hsv; refine ⟨(by first | (intro _; rfl) | (intro h; cases h)), ?_⟩; refine pwl_runk fun K' S hK' hS => ?_; simp [argSlots, *])) | ((with_reducible refine pwl_callk' (c := ?_) (x := ?_) (f := ?_) (svs := ?_) (cs := ?_) (cs' := ?_) (Qr := ?_) true ?_ ?_ ?_ ?_ ?_ ?_ ?_ ?_ ?_ ?_); rotate_left 7; (· (simp [argSlots, *]; done)); (· rfl); (· rfl); (· (simp; with_reducible rfl)); (· (simp; with_reducible rfl)); (· first | (simp [bors, bor]; with_reducible rfl) | (simp [bors, bor, *]; with_reducible rfl)); (· rfl); (· ((with_reducible refine cc2))); (· (repeat' (first | exact SLs.nil | refine SLs.cons ?_ ?_ | with_reducible exact SLe.refl _ | exact SLe.pv (PLe.nil _) | refine SLe.agg ?_ | refine SLe.pv (PLe.ofs ?_ (by simp)) | exact PLs.nil | refine PLs.cons ?_ ?_ | with_reducible exact PLe.refl _ | exact PLe.nil _ | refine PLe.ofs ?_ (by simp) | exact PLss.nil | with_reducible exact PLss.refl _ | refine PLss.cons ?_ ?_))); (rintro sv hsv hsc; clear hsc; obtain rfl := hsv; refine ⟨(by first | (intro _; rfl) | (intro h; cases h)), ?_⟩; refine pwl_runk fun K' S hK' hS => ?_; simp [argSlots, *])))
  all_goals (refine finC_ret (vs := ?_) [] (by first | exact .inr rfl | exact .inl rfl) rfl ?_ ?_ ?_; rotate_left; (· simp [Tryz.results23, resL, resOf]; rfl); (· first | rfl | (simp [wrapRes, cv, SV.const, constL]; done)); (· first | (simp [wrapRes, cv, *]; done) | (simp [wrapRes, cv, *]; grind) | (simp [wrapRes, cv, *]; omega)))
end
section
attribute [local simp] V.c V.z Sd.c Tst.c Fx.c Rl.c Fc.c Gr.c wrap1f take_map_len take_map_len1 wrap1 wrap2 wrap3
theorem enters9 : Enters Tryz.prog 9 := enters_mk Tryz.func9 (by kernel_rfl) (by kernel_rfl)
theorem SetP.at {s : List Int} {n : Nat} (h : SetP s n) {i : Nat} (hi : i < s.length) : ∃ p : Nat, s[i] = (p : Int) ∧ p < n := by
  have := h i hi
  exact ⟨s[i].toNat, by omega, by omega⟩
theorem law9_ok (R : List Rl) (F : List Fc) (which : List Bool) : CC Tryz.prog 9 [.pv (.sl 10 (prules R)), .pv (.sl 6 (pfacts F)), .pv (.sl 1 (pbools which))] (fun sv => sv = sbool true) := by
  refine cc_of_pw Tryz.func9 rfl enters9 Tryz.ntmps9 (by simp) (pw_of_pws ?_)
  have hf := few_ok R F 12
  cases hq : fewQ R F 12 with
  | false =>
    rw [hq] at hf
    clear hq
    repeat' (first | with_reducible refine pws_seq ?_ | ((with_reducible refine pws_regk fun K' S hK' hS => ?_); simp [argSlots, *]) | ((with_reducible refine Goes.go hK' ?_); clear hK' hS; clear K' S) | ((with_reducible refine GoesS.go hS ?_); clear hK' hS; clear K' S) | ((with_reducible refine pws_true ?_ ?_); (· simp; done)) | with_reducible refine pws_ret ?_ | ((with_reducible refine pwl_callk (c := ?_) (x := ?_) (f := ?_) (svs := ?_) (cs := ?_) (Qr := ?_) true ?_ ?_ ?_ ?_ ?_ ?_ ?_ ?_ ?_); rotate_left 6; (· (simp [argSlots, *]; done)); (· rfl); (· rfl); (· (simp; with_reducible rfl)); (· (simp; with_reducible rfl)); (· first | (simp [bors, bor]; with_reducible rfl) | (simp [bors, bor, *]; with_reducible rfl)); (· rfl); (· ((with_reducible refine head_ok))); (rintro sv hsv hsc; clear hsc; obtain rfl := hsv; refine ⟨(by first | (intro _; rfl) | (intro h; cases h)), ?_⟩; refine pwl_runk fun K' S hK' hS => ?_; simp [argSlots, *])) | ((with_reducible refine pwl_callk (c := ?_) (x := ?_) (f := ?_) (svs := ?_) (cs := ?_) (Qr := ?_) true ?_ ?_ ?_ ?_ ?_ ?_ ?_ ?_ ?_); rotate_left 6; (· (simp [argSlots, *]; done)); (· rfl); (· rfl); (· (simp; with_reducible rfl)); (· (simp; with_reducible rfl)); (· first | (simp [bors, bor]; with_reducible rfl) | (simp [bors, bor, *]; with_reducible rfl)); (· rfl); (· ((with_reducible refine hf))); (rintro sv hsv hsc; clear hsc; obtain rfl := hsv; refine ⟨(by first | (intro _; rfl) | (intro h; cases h)), ?_⟩; refine pwl_runk fun K' S hK' hS => ?_; simp [argSlots, *])))
    all_goals (refine finC_ret (vs := ?_) [] (by first | exact .inr rfl | exact .inl rfl) rfl ?_ ?_ ?_; rotate_left; (· simp [Tryz.results9, resL, resOf]; rfl); (· first | rfl | (simp [wrapRes, cv, SV.const, constL]; done)); (· first | (simp [wrapRes, cv, *]; done) | (simp [wrapRes, cv, *]; grind) | (simp [wrapRes, cv, *]; omega)))
  | true =>
    rw [hq] at hf
    obtain ⟨hR, hF, hl⟩ := fewQ_ok hq
    clear hq
    have hsm := some_ok F.length which (by omega)
    have hs := setP_some (n := F.length) (which := which)
    have hsl := hs.len
    have hcc := consistent_ok R F (someI F.length which) hR (by omega) (by omega)
    generalize someI F.length which = s at *
    repeat' (first | with_reducible refine pws_seq ?_ | with_reducible refine pws_skip ?_ | with_reducible refine pws_block ?_ | ((with_reducible refine pws_regk fun K' S hK' hS => ?_); simp [argSlots, *]) | ((with_reducible refine Goes.go hK' ?_); clear hK' hS; clear K' S) | ((with_reducible refine GoesS.go hS ?_); clear hK' hS; clear K' S) | ((with_reducible refine pws_false ?_ ?_); (· simp; done)) | ((with_reducible refine pwl_callk (c := ?_) (x := ?_) (f := ?_) (svs := ?_) (cs := ?_) (Qr := ?_) true ?_ ?_ ?_ ?_ ?_ ?_ ?_ ?_ ?_); rotate_left 6; (· (simp [argSlots, *]; done)); (· rfl); (· rfl); (· (simp; with_reducible rfl)); (· (simp; with_reducible rfl)); (· first | (simp [bors, bor]; with_reducible rfl) | (simp [bors, bor, *]; with_reducible rfl)); (· rfl); (· ((with_reducible refine head_ok))); (rintro sv hsv hsc; clear hsc; obtain rfl := hsv; refine ⟨(by first | (intro _; rfl) | (intro h; cases h)), ?_⟩; refine pwl_runk fun K' S hK' hS => ?_; simp [argSlots, *])) | ((with_reducible refine pwl_callk (c := ?_) (x := ?_) (f := ?_) (svs := ?_) (cs := ?_) (Qr := ?_) true ?_ ?_ ?_ ?_ ?_ ?_ ?_ ?_ ?_); rotate_left 6; (· (simp [argSlots, *]; done)); (· rfl); (· rfl); (· (simp; with_reducible rfl)); (· (simp; with_reducible rfl)); (· first | (simp [bors, bor]; with_reducible rfl) | (simp [bors, bor, *]; with_reducible rfl)); (· rfl); (· ((with_reducible refine hf))); (rintro sv hsv hsc; clear hsc; obtain rfl := hsv; refine ⟨(by first | (intro _; rfl) | (intro h; cases h)), ?_⟩; refine pwl_runk fun K' S hK' hS => ?_; simp [argSlots, *])) | ((with_reducible refine pwl_callk (c := ?_) (x := ?_) (f := ?_) (svs := ?_) (cs := ?_) (Qr := ?_) false ?_ ?_ ?_ ?_ ?_ ?_ ?_ ?_ ?_); rotate_left 6; (· (simp [argSlots, *]; done)); (· rfl); (· rfl); (· (simp; with_reducible rfl)); (· (simp; with_reducible rfl)); (· first | (simp [bors, bor]; with_reducible rfl) | (simp [bors, bor, *]; with_reducible rfl)); (· rfl); (· ((with_reducible refine hsm))); (rintro sv hsv hsc; clear hsc; obtain rfl := hsv; refine ⟨(by first | (intro _; rfl) | (intro h; cases h)), ?_⟩; refine pwl_runk fun K' S hK' hS => ?_; simp [argSlots, *])))
    refine pws_loop (α := { v : Nat × Bool // v.1 ≤ s.length }) (fun v => { n := 79, nx := 0, s := [(10, sint v.1.1), (9, sbool v.1.2), (8, .pv (.sl 1 (ints s))), (7, sbool true), (0, .pv (.sl 10 (prules R))), (1, .pv (.sl 6 (pfacts F)))], h := [], d := [] }) (fun v => s.length - v.1.1) (fun v => v.1.2 = true → ExP F s) ⟨(0, false), by simp⟩ (by simp) (ent_sub rfl rfl rfl (by simp [SubL, *]) (by simp [SubL, *]) (by simp) (by simp) (by simp [slotsBelow, SV.lo, belowL]) (by simp [heapBelow, ABlk.lo, SV.lo, belowL, slotsBelow])) ?_
    rintro ⟨⟨i, b⟩, hi⟩ hb K hK
    simp only at hi hb
    by_cases h1 : i < s.length
    · have hw := wrap64_id (n := (i : Int) + 1) (by omega)
      obtain ⟨p, hp, hpF⟩ := hs.at h1
      repeat' (first | with_reducible refine pws_seq ?_ | with_reducible refine pws_skip ?_ | with_reducible refine pws_block ?_ | ((with_reducible refine pws_regk fun K' S hK' hS => ?_); simp [argSlots, *]) | ((with_reducible refine Goes.go hK' ?_); clear hK' hS; clear K' S) | ((with_reducible refine pws_true ?_ ?_); (· simp; done)))
      refine pws_loop (α := { v : Nat × Bool // v.1 ≤ i }) (fun v => { n := 79, nx := 0, s := [(11, sint v.1.1), (10, sint i), (9, sbool v.1.2), (8, .pv (.sl 1 (ints s))), (7, sbool true), (0, .pv (.sl 10 (prules R))), (1, .pv (.sl 6 (pfacts F)))], h := [], d := [] }) (fun v => i - v.1.1) (fun v => v.1.2 = true → ExP F s) ⟨(0, b), by simp⟩ hb (ent_sub rfl rfl rfl (by simp [SubL, *]) (by simp [SubL, *]) (by simp) (by simp) (by simp [slotsBelow, SV.lo, belowL]) (by simp [heapBelow, ABlk.lo, SV.lo, belowL, slotsBelow])) ?_
      clear hb
      rintro ⟨⟨k, b⟩, hk⟩ hb K2 hK2
      simp only at hk hb
      by_cases h2 : k < i
      · have hwk := wrap64_id (n := (k : Int) + 1) (by omega)
        have hks : k < s.length := by omega
        obtain ⟨q, hq, hqF⟩ := hs.at hks
        cases b with
        | true =>
          repeat' (first | with_reducible refine pws_seq ?_ | with_reducible refine pws_skip ?_ | with_reducible refine pws_block ?_ | ((with_reducible refine pws_regk fun K' S hK' hS => ?_); simp [argSlots, *]) | ((with_reducible refine Goes.go hK' ?_); clear hK' hS; clear K' S) | ((with_reducible refine pws_true ?_ ?_); (· simp; done)) | with_reducible refine blk_normal ?_ | with_reducible refine thenQ_normal ?_ | with_reducible refine pws_nil ?_)
          refine hK2 _ ⟨(k + 1, true), by simp; omega⟩ (ent_sub rfl rfl rfl (by simp [SubL, *]) (by simp [SubL, *]) (by simp) (by simp) (by simp [slotsBelow, SV.lo, belowL]) (by simp [heapBelow, ABlk.lo, SV.lo, belowL, slotsBelow])) hb (by simp; omega)
        | false =>
          clear hb
          have hex : ∀ c : Bool, (c = true → F[p].entity = F[q].entity ∧ (F[p].variant ≠ -1 ∨ F[q].variant ≠ -1)) → (c = true → ExP F s) := fun c h hc => by
            obtain ⟨e1, e2⟩ := h hc
            refine ⟨i, k, h2, h1, ?_⟩
            rw [hp, hq, fc_nat, fc_nat, nf_get hpF, nf_get hqF]
            simp [excl, e1]
            exact e2
          by_cases he0 : F[p].entity = F[q].entity
          · have he : (F[p].entity = F[q].entity) = True := eq_true he0
            by_cases hv : F[p].variant = -1
            · by_cases hv2 : F[q].variant = -1
              · clear he0
                repeat' (first | with_reducible refine pws_seq ?_ | with_reducible refine pws_skip ?_ | with_reducible refine pws_block ?_ | ((with_reducible refine pws_regk fun K' S hK' hS => ?_); simp [argSlots, *]) | ((with_reducible refine Goes.go hK' ?_); clear hK' hS; clear K' S) | ((with_reducible refine pws_true ?_ ?_); (· simp; done)) | with_reducible refine blk_normal ?_ | with_reducible refine thenQ_normal ?_ | with_reducible refine pws_nil ?_)
                refine hK2 _ ⟨(k + 1, false), by simp; omega⟩ (ent_sub rfl rfl rfl (by simp [SubL, *]) (by simp [SubL, *]) (by simp) (by simp) (by simp [slotsBelow, SV.lo, belowL]) (by simp [heapBelow, ABlk.lo, SV.lo, belowL, slotsBelow])) (by simp) (by simp; omega)
              · have h3 := hex true fun _ => ⟨he0, .inr hv2⟩
                clear he0 hex
                repeat' (first | with_reducible refine pws_seq ?_ | with_reducible refine pws_skip ?_ | with_reducible refine pws_block ?_ | ((with_reducible refine pws_regk fun K' S hK' hS => ?_); simp [argSlots, *]) | ((with_reducible refine Goes.go hK' ?_); clear hK' hS; clear K' S) | ((with_reducible refine pws_true ?_ ?_); (· simp; done)) | with_reducible refine blk_normal ?_ | with_reducible refine thenQ_normal ?_ | with_reducible refine pws_nil ?_)
                refine hK2 _ ⟨(k + 1, true), by simp; omega⟩ (ent_sub rfl rfl rfl (by simp [SubL, *]) (by simp [SubL, *]) (by simp) (by simp) (by simp [slotsBelow, SV.lo, belowL]) (by simp [heapBelow, ABlk.lo, SV.lo, belowL, slotsBelow])) h3 (by simp; omega)
            · have h3 := hex true fun _ => ⟨he0, .inl hv⟩
              clear he0 hex
              repeat' (first | with_reducible refine pws_seq ?_ | with_reducible refine pws_skip ?_ | with_reducible refine pws_block ?_ | ((with_reducible refine pws_regk fun K' S hK' hS => ?_); simp [argSlots, *]) | ((with_reducible refine Goes.go hK' ?_); clear hK' hS; clear K' S) | ((with_reducible refine pws_true ?_ ?_); (· simp; done)) | with_reducible refine blk_normal ?_ | with_reducible refine thenQ_normal ?_ | with_reducible refine pws_nil ?_)
              refine hK2 _ ⟨(k + 1, true), by simp; omega⟩ (ent_sub rfl rfl rfl (by simp [SubL, *]) (by simp [SubL, *]) (by simp) (by simp) (by simp [slotsBelow, SV.lo, belowL]) (by simp [heapBelow, ABlk.lo, SV.lo, belowL, slotsBelow])) h3 (by simp; omega)
          · clear hex
            repeat' (first | with_reducible refine pws_seq ?_ | with_reducible refine pws_skip ?_ | with_reducible refine pws_block ?_ | ((with_reducible refine pws_regk fun K' S hK' hS => ?_); simp [argSlots, *]) | ((with_reducible refine Goes.go hK' ?_); clear hK' hS; clear K' S) | ((with_reducible refine pws_true ?_ ?_); (· simp; done)) | with_reducible refine blk_normal ?_ | with_reducible refine thenQ_normal ?_ | with_reducible refine pws_nil ?_)
            refine hK2 _ ⟨(k + 1, false), by simp; omega⟩ (ent_sub rfl rfl rfl (by simp [SubL, *]) (by simp [SubL, *]) (by simp) (by simp) (by simp [slotsBelow, SV.lo, belowL]) (by simp [heapBelow, ABlk.lo, SV.lo, belowL, slotsBelow])) (by simp) (by simp; omega)
      · obtain rfl : k = i := by omega
        clear hK2
        repeat' (first | with_reducible refine pws_seq ?_ | ((with_reducible refine pws_regk fun K' S hK' hS => ?_); simp [argSlots, *]) | ((with_reducible refine Goes.go hK' ?_); clear hK' hS; clear K' S) | ((with_reducible refine pws_false ?_ ?_); (· simp; done)) | with_reducible refine blk_normal ?_ | with_reducible refine blk_same ?_ | with_reducible refine thenQ_exit ?_ | with_reducible refine thenQ_normal ?_ | with_reducible refine pws_nil ?_ | with_reducible refine pws_exit ?_)
        refine hK _ ⟨(k + 1, b), by simp; omega⟩ (ent_sub rfl rfl rfl (by simp [SubL, *]) (by simp [SubL, *]) (by simp) (by simp) (by simp [slotsBelow, SV.lo, belowL]) (by simp [heapBelow, ABlk.lo, SV.lo, belowL, slotsBelow])) hb (by simp; omega)
    · obtain rfl : i = s.length := by omega
      clear hK
      cases b with
      | false =>
        clear hb
        repeat' (first | with_reducible refine pws_seq ?_ | ((with_reducible refine pws_regk fun K' S hK' hS => ?_); simp [argSlots, *]) | ((with_reducible refine Goes.go hK' ?_); clear hK' hS; clear K' S) | ((with_reducible refine pws_false ?_ ?_); (· simp; done)) | with_reducible refine pws_ret ?_ | with_reducible refine blk_same ?_ | with_reducible refine thenQ_exit ?_ | with_reducible refine pws_exit ?_)
        all_goals (refine finC_ret (vs := ?_) [] (by first | exact .inr rfl | exact .inl rfl) rfl ?_ ?_ ?_; rotate_left; (· simp [Tryz.results9, resL, resOf]; rfl); (· first | rfl | (simp [wrapRes, cv, SV.const, constL]; done)); (· first | (simp [wrapRes, cv, *]; done) | (simp [wrapRes, cv, *]; grind) | (simp [wrapRes, cv, *]; omega)))
      | true =>
        have hc : consL R F s = false := consL_false (.inl (hb rfl))
        rw [hc] at hcc
        clear hb
        repeat' (first | with_reducible refine pws_seq ?_ | ((with_reducible refine pws_regk fun K' S hK' hS => ?_); simp [argSlots, *]) | ((with_reducible refine Goes.go hK' ?_); clear hK' hS; clear K' S) | ((with_reducible refine GoesS.go hS ?_); clear hK' hS; clear K' S) | ((with_reducible refine pws_false ?_ ?_); (· simp; done)) | with_reducible refine pws_ret ?_ | with_reducible refine blk_same ?_ | with_reducible refine thenQ_exit ?_ | with_reducible refine pws_exit ?_ | ((with_reducible refine pwl_callk (c := ?_) (x := ?_) (f := ?_) (svs := ?_) (cs := ?_) (Qr := ?_) true ?_ ?_ ?_ ?_ ?_ ?_ ?_ ?_ ?_); rotate_left 6; (· (simp [argSlots, *]; done)); (· rfl); (· rfl); (· (simp; with_reducible rfl)); (· (simp; with_reducible rfl)); (· first | (simp [bors, bor]; with_reducible rfl) | (simp [bors, bor, *]; with_reducible rfl)); (· rfl); (· ((with_reducible refine hcc))); (rintro sv hsv hsc; clear hsc; obtain rfl := hsv; refine ⟨(by first | (intro _; rfl) | (intro h; cases h)), ?_⟩; refine pwl_runk fun K' S hK' hS => ?_; simp [argSlots, *])))
        all_goals (refine finC_ret (vs := ?_) [] (by first | exact .inr rfl | exact .inl rfl) rfl ?_ ?_ ?_; rotate_left; (· simp [Tryz.results9, resL, resOf]; rfl); (· first | rfl | (simp [wrapRes, cv, SV.const, constL]; done)); (· first | (simp [wrapRes, cv, *]; done) | (simp [wrapRes, cv, *]; grind) | (simp [wrapRes, cv, *]; omega)))
end
end Go.Proofs.T1
/- The arguments of the statements, read as lists of rules, of facts, of numbers and of truth values. -/
set_option maxRecDepth 100000
namespace Go.Proofs.T1
open Go.Vc Go.RowKit
theorem map_ex {α : Type} {f : α → List PV} : ∀ {xs : List (List PV)}, (∀ x ∈ xs, ∃ a, x = f a) → ∃ l : List α, xs = l.map f
  | [], _ => ⟨[], rfl⟩
  | x :: xs, h => by
    obtain ⟨a, rfl⟩ := h x (by simp)
    obtain ⟨l, rfl⟩ := map_ex fun y hy => h y (List.mem_cons_of_mem _ hy)
    exact ⟨a :: l, rfl⟩
abbrev TI : List PV → Prop := fun p => ∃ n : Int, p = [pint n]
abbrev TS : List PV → Prop := fun p => ∃ s : ByteArray, p = [.lit (.string s)]
theorem rd3 : Rd Tryz.prog 3 1 TI := (Rd.int Tryz.underlying3).mono fun p ⟨n, h, _⟩ => ⟨n, h⟩
theorem rd9 : Rd Tryz.prog 9 1 TS := Rd.str Tryz.underlying9
theorem rd4 : Rd Tryz.prog 4 1 (fun p => ∃ b : Bool, p = [.lit (.bool b)]) := Rd.bool Tryz.underlying4
theorem co3 : Tryz.prog.cellsOf 3 = 1 := by kernel_rfl
theorem co4 : Tryz.prog.cellsOf 4 = 1 := by kernel_rfl
theorem co9 : Tryz.prog.cellsOf 9 = 1 := by kernel_rfl
theorem co24 : Tryz.prog.cellsOf 24 = 1 := by kernel_rfl
theorem co29 : Tryz.prog.cellsOf 29 = 1 := by kernel_rfl
theorem co30 : Tryz.prog.cellsOf 30 = 1 := by kernel_rfl
theorem co52 : Tryz.prog.cellsOf 52 = 1 := by kernel_rfl
theorem co79 : Tryz.prog.cellsOf 79 = 3 := by kernel_rfl
theorem co117 : Tryz.prog.cellsOf 117 = 5 := by kernel_rfl
theorem co119 : Tryz.prog.cellsOf 119 = 4 := by kernel_rfl
theorem co121 : Tryz.prog.cellsOf 121 = 12 := by kernel_rfl
theorem co32 : Tryz.prog.cellsOf 32 = 10 := by kernel_rfl
theorem co54 : Tryz.prog.cellsOf 54 = 6 := by kernel_rfl
abbrev TIs : List PV → Prop := fun p => ∃ l : List Int, p = [.sl 1 (ints l)]
theorem rd24 : Rd Tryz.prog 24 1 TIs := (Rd.slice Tryz.underlying24 co3 (by decide) rd3).mono fun p ⟨xs, h, hx⟩ => by
  obtain ⟨l, rfl⟩ := map_ex (f := fun n : Int => [pint n]) hx
  exact ⟨l, h⟩
abbrev TV : List PV → Prop := fun p => ∃ v : V, p = v.c
theorem rd79 : Rd Tryz.prog 79 3 TV := (Rd.struct [(1, TI), (1, TI), (1, TS)] Tryz.underlying79 co79 rfl ⟨rfl, co3, rd3, rfl, co3, rd3, rfl, co9, rd9, trivial⟩).mono fun p h => by
  obtain ⟨q1, r1, rfl, _, ⟨a, rfl⟩, q2, r2, rfl, _, ⟨b, rfl⟩, q3, r3, rfl, _, ⟨c, rfl⟩, rfl⟩ := h
  exact ⟨⟨a, b, c⟩, rfl⟩
theorem rd52 : Rd Tryz.prog 52 1 (fun p => ∃ l : List V, p = [.sl 3 (l.map V.c)]) := (Rd.slice Tryz.underlying52 co79 (by decide) rd79).mono fun p ⟨xs, h, hx⟩ => by
  obtain ⟨l, rfl⟩ := map_ex (f := V.c) hx
  exact ⟨l, h⟩
theorem rd117 : Rd Tryz.prog 117 5 (fun p => ∃ s : Sd, p = s.c) := (Rd.struct [(1, TI), (1, TI), (3, TV)] Tryz.underlying117 co117 rfl ⟨rfl, co3, rd3, rfl, co3, rd3, rfl, co79, rd79, trivial⟩).mono fun p h => by
  obtain ⟨q1, r1, rfl, _, ⟨a, rfl⟩, q2, r2, rfl, _, ⟨b, rfl⟩, q3, r3, rfl, _, ⟨c, rfl⟩, rfl⟩ := h
  exact ⟨⟨a, b, c⟩, rfl⟩
theorem rd119 : Rd Tryz.prog 119 4 (fun p => ∃ s : Fx, p = s.c) := (Rd.struct [(1, TI), (3, TV)] Tryz.underlying119 co119 rfl ⟨rfl, co3, rd3, rfl, co79, rd79, trivial⟩).mono fun p h => by
  obtain ⟨q1, r1, rfl, _, ⟨a, rfl⟩, q3, r3, rfl, _, ⟨c, rfl⟩, rfl⟩ := h
  exact ⟨⟨a, c⟩, rfl⟩
theorem rd121 : Rd Tryz.prog 121 12 (fun p => ∃ s : Tst, p = s.c) := (Rd.struct [(5, fun p => ∃ s : Sd, p = s.c), (1, TI), (5, fun p => ∃ s : Sd, p = s.c), (1, TI)] Tryz.underlying121 co121 rfl ⟨rfl, co117, rd117, rfl, co3, rd3, rfl, co117, rd117, rfl, co3, rd3, trivial⟩).mono fun p h => by
  obtain ⟨q1, r1, rfl, _, ⟨a, rfl⟩, q2, r2, rfl, _, ⟨b, rfl⟩, q3, r3, rfl, _, ⟨c, rfl⟩, q4, r4, rfl, _, ⟨d, rfl⟩, rfl⟩ := h
  exact ⟨⟨a, b, c, d⟩, rfl⟩
theorem rd29 : Rd Tryz.prog 29 1 (fun p => ∃ l : List Fx, p = [.sl 4 (l.map Fx.c)]) := (Rd.slice Tryz.underlying29 co119 (by decide) rd119).mono fun p ⟨xs, h, hx⟩ => by
  obtain ⟨l, rfl⟩ := map_ex (f := Fx.c) hx
  exact ⟨l, h⟩
theorem rd30 : Rd Tryz.prog 30 1 (fun p => ∃ l : List Tst, p = [.sl 12 (l.map Tst.c)]) := (Rd.slice Tryz.underlying30 co121 (by decide) rd121).mono fun p ⟨xs, h, hx⟩ => by
  obtain ⟨l, rfl⟩ := map_ex (f := Tst.c) hx
  exact ⟨l, h⟩
theorem rd32 : Rd Tryz.prog 32 10 (fun p => ∃ r : Rl, p = r.c) := (Rd.struct [(1, TI), (1, TS), (1, TI), (1, TIs), (1, TI), (1, fun p => ∃ l : List Fx, p = [.sl 4 (l.map Fx.c)]), (1, TI), (1, TI), (1, TIs), (1, fun p => ∃ l : List Tst, p = [.sl 12 (l.map Tst.c)])] Tryz.underlying32 co32 rfl
    ⟨rfl, co3, rd3, rfl, co9, rd9, rfl, co3, rd3, rfl, co24, rd24, rfl, co3, rd3, rfl, co29, rd29, rfl, co3, rd3, rfl, co3, rd3, rfl, co24, rd24, rfl, co30, rd30, trivial⟩).mono fun p h => by
  obtain ⟨_, _, rfl, _, ⟨a, rfl⟩, _, _, rfl, _, ⟨b, rfl⟩, _, _, rfl, _, ⟨c, rfl⟩, _, _, rfl, _, ⟨d, rfl⟩, _, _, rfl, _, ⟨e, rfl⟩, _, _, rfl, _, ⟨f, rfl⟩, _, _, rfl, _, ⟨g, rfl⟩, _, _, rfl, _, ⟨i, rfl⟩, _, _, rfl, _, ⟨j, rfl⟩, _, _, rfl, _, ⟨k, rfl⟩, rfl⟩ := h
  exact ⟨⟨a, b, c, d, e, f, g, i, j, k⟩, rfl⟩
theorem rd54 : Rd Tryz.prog 54 6 (fun p => ∃ r : Fc, p = r.c) := (Rd.struct [(1, TI), (1, TI), (1, TI), (1, fun p => ∃ l : List V, p = [.sl 3 (l.map V.c)]), (1, TI), (1, TIs)] Tryz.underlying54 co54 rfl
    ⟨rfl, co3, rd3, rfl, co3, rd3, rfl, co3, rd3, rfl, co52, rd52, rfl, co3, rd3, rfl, co24, rd24, trivial⟩).mono fun p h => by
  obtain ⟨_, _, rfl, _, ⟨a, rfl⟩, _, _, rfl, _, ⟨b, rfl⟩, _, _, rfl, _, ⟨c, rfl⟩, _, _, rfl, _, ⟨d, rfl⟩, _, _, rfl, _, ⟨e, rfl⟩, _, _, rfl, _, ⟨f, rfl⟩, rfl⟩ := h
  exact ⟨⟨a, b, c, d, e, f⟩, rfl⟩
section
variable {H : Type} {enc : TypeId × Value → H} {w : World} {base : Nat} {sp : Nat → Bool} {held : Bool} {r : Reach} {b0 : Nat} {v : Value} {d : DataW H} {ps : List MemPlace}
theorem arg_rules (hval : Value.okWide Tryz.prog w r b0 22 v) (hd : DataW.Trod enc Tryz.prog w base sp held 22 v d ps) : ∃ R : List Rl, Rep (Olds w) w (.sl 10 (R.map Rl.c)) v := by
  obtain ⟨xs, hx, hr⟩ := arg_slice Tryz.underlying22 co32 (by decide) rd32 hval hd
  obtain ⟨l, rfl⟩ := map_ex (f := Rl.c) hx
  exact ⟨l, hr⟩
theorem arg_facts (hval : Value.okWide Tryz.prog w r b0 23 v) (hd : DataW.Trod enc Tryz.prog w base sp held 23 v d ps) : ∃ F : List Fc, Rep (Olds w) w (.sl 6 (F.map Fc.c)) v := by
  obtain ⟨xs, hx, hr⟩ := arg_slice Tryz.underlying23 co54 (by decide) rd54 hval hd
  obtain ⟨l, rfl⟩ := map_ex (f := Fc.c) hx
  exact ⟨l, hr⟩
theorem arg_bools (hval : Value.okWide Tryz.prog w r b0 47 v) (hd : DataW.Trod enc Tryz.prog w base sp held 47 v d ps) : ∃ l : List Bool, Rep (Olds w) w (.sl 1 (pbools l)) v := by
  obtain ⟨xs, hx, hr⟩ := arg_slice Tryz.underlying47 co4 (by decide) rd4 hval hd
  obtain ⟨l, rfl⟩ := map_ex (f := fun n : Bool => [.lit (.bool n)]) hx
  exact ⟨l, hr⟩
end
end Go.Proofs.T1
/- From a contract of a law to its row and its card: what all laws of the seat have in common. -/
set_option maxRecDepth 100000
namespace Go.Proofs.YtpnpkigicnmopaaGreatDoor
open Go.ChangeShapes Go.WideShapes Go.ChangeAt Go.WideMaps Go.WideElems Go.RowKit Go.Vc Go.Proofs.T1
theorem own : ownKnob Tryz.prog.godebug = none := by kernel_rfl
abbrev laid3 {H : Type} : List (String × DataW H) := [("math/bits.deBruijn32tab", Rows.laid_math_bits_deBruijn32tab), ("math/bits.deBruijn64tab", Rows.laid_math_bits_deBruijn64tab), ("internal/strconv.uint64pow10", Rows.laid_internal_strconv_uint64pow10)]
theorem door_met (os : Os) (args : Array Value) : laidMetH Tryz.prog laid3 ((World.doorLaid Tryz.prog 400 os).forCall (fun _ _ => 0) ⟨#[], args, []⟩).memory :=
  laidMetH_of_parts3 (fuel := 8) (laidMet_of_run' 8 (by kernel_rfl) (by kernel_rfl)) (by kernel_rfl) (by kernel_rfl)
theorem lay : laidOutB Tryz.prog = true := by kernel_rfl
section
variable {H : Type} {enc : TypeId × Value → H}
/-- A contract that hands back 'true' is the law's row. -/
theorem law_post {f : Func} {s : ChangeSpec} {k : Nat} {svs : List SV} {W : World} {args : Array Value} {ds gs : List (DataW H)} {before : List MemPlace} (hC : CC Tryz.prog k svs (fun sv => sv = sbool true)) (hl : args.toList.length = svs.length)
    (hs : ∀ (j : Nat) sv u, svs[j]? = some sv → args.toList[j]? = some u → Srel (Olds W) (fun _ _ => none) W sv u)
    (hW : DataW.Whole enc Tryz.prog f.params.toList s.vars false W args.toList ds gs before) (hv : s.vars = []) (hf : s.fn H ds = { results := [.lit (.bool true)], args := ds }) (hr : f.resultTypes = #[4])
    (hp : (f.params.toList.all fun t => Tryz.prog.readableRec t && decide (t < Tryz.prog.types.size)) = true) :
    Calls Tryz.prog k args W fun e W' => ∃ v, e = .returned v ∧ s.post enc Tryz.prog f false true false false W args v W' := by
  refine (hC.calls hl hs).mono fun e W' ⟨v, sv, I, φ, he, hq, _, hsr, hb⟩ => ?_
  subst hq
  have hvb := hsr.lit_inv
  subst hvb
  refine ⟨_, he, ?_⟩
  have hW' := hW
  obtain ⟨p, q, hA, hV, rfl, hfz, hnd⟩ := hW
  have hlt := hW'.lt
  obtain ⟨rfl, rfl⟩ : gs = [] ∧ q = [] := by
    rw [hv] at hV
    cases gs with
    | nil => exact ⟨rfl, hV⟩
    | cons g r => exact absurd hV (by intro h; cases h)
  have hfn : s.fn H (ds ++ []) = { results := [.lit (.bool true)], args := ds } := by rw [List.append_nil]; exact hf
  refine post_of_below (pa := p) (pv := []) hW' (fun b sp hd => ?_) (fun sp hsp => ?_) (fun sp _ => ?_) rfl hb ?_
  · rw [hfn, hr]
    exact trodAll_mk1 (shut_bool Tryz.underlying4 true)
  · rw [hfn]
    exact trodAll_below lay hb hp hA (fun x hx => hlt x (by simp [hx])) fun x hx => hsp x (by simp [hx])
  · rw [hfn, hv]
    rfl
  · exact ok_one hr rfl (okWide_bool_mk Tryz.underlying4 _)
end
end Go.Proofs.YtpnpkigicnmopaaGreatDoor
