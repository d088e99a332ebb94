import Derived.Test.YtpnpkigicnmopaaGreatDoorL9E
import Derived.RangeFuncLeaves
import Derived.RangeFuncNested
import Derived.Maps.AppendAt
import Derived.TacticsIn
import Derived.Laws.CopyRow
import Derived.Deep.OwnRows
import Derived.Maps.RangeRun
import Derived.Test.YtpnpkigicnmopaaGreatDoorProg
import Derived.KernelRfl
import Derived.Carry
import Derived.ChangeArms
import Derived.ChangeOld
import Derived.DataElems
import Derived.DataReads
import Derived.RowKit
import Derived.ChangeSame
import Derived.Laws.StructEq
import Derived.Lib.SliceRun
import Derived.Ground.NamesProg
import Derived.Shelf.Sort.Plain
import Derived.Lib.AppendStr
import Derived.Laws.Append
import Derived.Laws.IdiomStrings
import Derived.Ground.SlsfProg
import Derived.Shelf.SlSortCmp.Whole1
import Derived.Shelf.SlSortCmp.NoneTotal
import Derived.Test.YtpnpkigicnmopaaGreatDoorTie
import Derived.Test.YtpnpkigicnmopaaGreatDoorCards
import Derived.ProofKit
import Derived.LaidMore
import Derived.OpenShut
import Derived.Stop.Joined
import Derived.SevenTiedAt
/- The law DenialMinimal holds: for every input that its row lets in, the call returns true and each argument reads as before. The row lists three package-level tables, which the card ties to the program's text. -/
set_option linter.unusedVariables false
set_option linter.unusedSimpArgs false
set_option linter.unnecessarySimpa false
set_option linter.all false
namespace Go.Proofs.T1
open Go.Vc
theorem min_cons {R : List Rl} {F : List Fc} {s : List Int} (h : s ∈ violL R F) : consL R F s = false := consL_false (mem_violL.1 h).2.1
theorem min_len {R : List Rl} {F : List Fc} {s : List Int} (h : s ∈ violL R F) : 1 ≤ s.length ∧ s.length ≤ 3 := minBad_len (mem_violL.1 h)
theorem min_rest {R : List Rl} {F : List Fc} {s : List Int} (h : s ∈ violL R F) {k : Nat} (hk : k < s.length) : consL R F (s.take k ++ s.drop (k + 1)) = true := by
  obtain ⟨h1, h2, h3⟩ := mem_violL.1 h
  have h1' := setP_iff.1 h1
  have hsub : (s.take k ++ s.drop (k + 1)).Sublist s := by
    have : s = s.take k ++ s.drop k := (List.take_append_drop k s).symm
    conv => rhs; rw [this]
    refine List.Sublist.append (.refl _) ?_
    rw [List.drop_eq_getElem_cons hk]
    exact List.sublist_cons_self _ _
  have hinc : Inc (s.take k ++ s.drop (k + 1)) := List.Pairwise.sublist hsub h1'.1
  refine consL_iff.2 ⟨setP_iff.2 ⟨hinc, fun x hx => h1'.2 x (hsub.subset hx)⟩, fun hb => ?_⟩
  have := congrArg List.length (h3 _ hinc (fun x hx => hsub.subset hx) hb)
  simp at this
  omega
end Go.Proofs.T1
namespace Go.Vc
open Go.RowKit
variable {P : Program} {n0 : Nat} {r : Option Nat}
theorem blocked2 {ops : Array Oper} {eff : List Nat} {e : Nat} {r' : List Nat} (h : eager2 ops eff (e :: r') = true) (he : e ∈ eff) {j : Nat} (hj : j ∈ r') (hje : j ∉ eff) (hk : ∀ k, k ∈ predsOf ops j → k ∈ e :: r' → False) : False := by
  simp only [eager2, Bool.and_eq_true, Bool.or_eq_true, Bool.not_eq_true'] at h
  rcases h.1 with h | h
  · have : eff.contains e = true := by simpa using he
    rw [this] at h; cases h
  · have := List.all_eq_true.1 h.2 j hj
    rw [Bool.or_eq_true] at this
    rcases this with h1 | h1
    · exact hje (by simpa using h1)
    · obtain ⟨k, hk1, hk2⟩ := List.any_eq_true.1 h1
      exact hk k hk1 (by simpa using hk2)
theorem nodup2 {ops : Array Oper} {eff : List Nat} {e : Nat} {r' : List Nat} (h : eager2 ops eff (e :: r') = true) (he : e ∈ eff) : ¬ e ∈ r' := fun hm => by
  simp only [eager2, Bool.and_eq_true, Bool.or_eq_true, Bool.not_eq_true'] at h
  rcases h.1 with h | h
  · have : eff.contains e = true := by simpa using he
    rw [this] at h; cases h
  · have : r'.contains e = true := by simpa using hm
    rw [this] at h; cases h.1
def drawOk2 (ops : Array Oper) (eff ord alt : List Nat) : Bool :=
  (validOrd .any ops ord && (validOrd .text ops ord || validOrd .text ops alt) && (validOrd .gc ops ord || validOrd .gc ops alt || !Region.departs ops)) && eager2 ops eff ord && ord.all (· < ops.size) &&
  (List.range ops.size).all fun i => match ops[i]? with
    | some o => (!(match o.op with | .defer _ => true | .select _ _ => true | _ => false)) && (eff.contains i || o.dst.isSome) &&
      (opTmps ops o).all (fun t => (List.range ops.size).all fun j => dstOf ops j != some t || (predsOf ops i).contains j || eff.contains j) &&
      (List.range ops.size).all (fun j => j == i || o.dst.isNone || dstOf ops j != o.dst)
    | none => true
theorem drawOk2_ok {ops : Array Oper} {eff ord alt : List Nat} (h : drawOk2 ops eff ord alt = true) : DrawOk2 ops eff ord := by
  simp only [drawOk2, Bool.and_eq_true, List.all_eq_true, decide_eq_true_eq] at h
  obtain ⟨⟨⟨⟨⟨h1, _⟩, _⟩, h2⟩, h3⟩, h4⟩ := h
  have hop : ∀ i o, ops[i]? = some o → i ∈ List.range ops.size := fun i o ho => by
    rcases Nat.lt_or_ge i ops.size with h | h
    · simpa using h
    · rw [Array.getElem?_eq_none h] at ho; cases ho
  refine ⟨fun i hi => ?_, h3, h2, fun i o ho => ?_, fun i o ho hn => ?_, fun i o ho t ht j hj => ?_, fun i o j ho hne hd => ?_⟩
  · simp only [validOrd, Bool.and_eq_true, List.all_eq_true] at h1
    simpa using h1.1 i (by simpa using hi)
  · have := h4 i (hop i o ho)
    simp only [ho, Bool.and_eq_true] at this
    have hb := this.1.1.1
    exact ⟨fun c hc => by rw [hc] at hb; simp at hb, fun cs b hc => by rw [hc] at hb; simp at hb⟩
  · have := h4 i (hop i o ho)
    simp only [ho, Bool.and_eq_true, Bool.or_eq_true] at this
    rcases this.1.1.2 with h5 | h5
    · exact absurd (by simpa using h5) hn
    · intro h6; rw [h6] at h5; cases h5
  · have := h4 i (hop i o ho)
    simp only [ho, Bool.and_eq_true, List.all_eq_true, Bool.or_eq_true] at this
    rcases this.1.2 t ht j (by simpa using dstOf_lt hj) with (h5 | h5) | h5
    · rw [hj] at h5; simp at h5
    · exact .inl (by simpa using h5)
    · exact .inr (by simpa using h5)
  · intro hj
    have := h4 i (hop i o ho)
    simp only [ho, Bool.and_eq_true, List.all_eq_true, Bool.or_eq_true] at this
    cases hq : o.dst with
    | none => exact hd hq
    | some t =>
      rw [hq] at hj
      rcases this.2 j (by simpa using dstOf_lt hj) with (h5 | h5) | h5
      · exact hne (show j = i by simpa using h5).symm
      · rw [hq] at h5; cases h5
      · rw [hj, hq] at h5; simp at h5
/-- The activation on which the canonical order has gone on to the next operation that is no mere filling of a slot. -/
theorem advance2 {ops : Array Oper} {eff ord : List Nat} (ok : DrawOk2 ops eff ord) {K : St → Prop} : ∀ (rest c : List Nat) (st : St) (aC : Act) (I : Nat → Nat → Prop) (φ : Phi) (w : World) (a : Act) (done : List Nat), PWd P n0 r ops eff K rest c st → R I φ st aC w → Ahead ops c done a aC →
    (∀ i ∈ rest, i ∉ done) → (∀ i, i < ops.size → i ∈ done ∨ i ∈ c ∨ i ∈ rest) → (∀ j ∈ c, j ∉ eff) → eager2 ops eff rest = true → (∀ j ∈ rest, j < ops.size) →
    ∃ rest' c' st' aC', PWd P n0 r ops eff K rest' c' st' ∧ R I φ st' aC' w ∧ Ahead ops c' done a aC' ∧ (∀ i ∈ rest', i ∉ done) ∧ (∀ i, i < ops.size → i ∈ done ∨ i ∈ c' ∨ i ∈ rest') ∧ (∀ j ∈ c', j ∉ eff) ∧ eager2 ops eff rest' = true ∧ (∀ j ∈ rest', j < ops.size) ∧
      st'.n = st.n ∧ st'.nx = st.nx ∧ st'.h = st.h ∧ st'.d = st.d ∧ (rest' = [] ∨ ∃ i r', rest' = i :: r' ∧ i ∈ eff) ∧ rest'.filter eff.contains = rest.filter eff.contains
  | [], c, st, aC, I, φ, w, a, done, h1, h2, h3, h4, h5, h6, h7, h8 => ⟨[], c, st, aC, h1, h2, h3, h4, h5, h6, h7, h8, rfl, rfl, rfl, rfl, .inl rfl, rfl⟩
  | i :: rest, c, st, aC, I, φ, w, a, done, h1, h2, h3, h4, h5, h6, h7, h8 => by
    by_cases he : i ∈ eff
    · exact ⟨i :: rest, c, st, aC, h1, h2, h3, h4, h5, h6, h7, h8, rfl, rfl, rfl, rfl, .inr ⟨i, rest, rfl, he⟩, rfl⟩
    · have he' : eff.contains i = false := by simpa using he
      unfold PWd at h1
      rw [he', if_neg (by simp)] at h1
      obtain ⟨o, d, sv, ho, hd, hlt, hreal, hk⟩ := h1
      obtain ⟨v, hv⟩ := hreal I φ aC w h2
      have hR := h2.put (d := some d) (by simpa [St.fits] using hlt) hv
      have hdo : dstOf ops i = some d := by unfold dstOf; rw [ho]; exact hd
      have hA : Ahead ops (i :: c) done a (aC.put (some d) v) := ⟨by simp [Act.put, h3.size], h3.dfs, fun t ht => by
        rw [getD_put, if_neg (fun h => ht i (by simp) (h4 i (by simp)) (by rw [hdo]; exact h.1))]
        exact h3.agree t fun j hj hn => ht j (by simp [hj]) hn⟩
      obtain ⟨rest', c', st', aC', g1, g2, g3, g4, g5, g6, g7, g8, g9, g10, g11, g12, g13, g14⟩ := advance2 ok rest (i :: c) (st.put (some d) sv) _ I φ w a done hk hR hA (fun j hj => h4 j (by simp [hj])) (fun j hj => by
        rcases h5 j hj with h | h | h
        · exact .inl h
        · exact .inr (.inl (by simp [h]))
        · rcases List.mem_cons.1 h with rfl | h
          · exact .inr (.inl (by simp))
          · exact .inr (.inr h)) (fun j hj => by
        rcases List.mem_cons.1 hj with rfl | hj
        · exact he
        · exact h6 j hj) (by simp only [eager2, Bool.and_eq_true] at h7; exact h7.2) (fun j hj => h8 j (by simp [hj]))
      exact ⟨rest', c', st', aC', g1, g2, g3, g4, g5, g6, g7, g8, g9, g10, g11, g12, g13, by rw [g14, List.filter_cons, he', if_neg (by simp)]⟩
theorem draw_run2 {ops : Array Oper} {eff ord : List Nat} (ok : DrawOk2 ops eff ord) {K : St → Prop} (hr : ∀ i, r = some i → i < n0) (b : Option Nat) (Q' : Exit → Act → World → Prop) (Ha : List (Nat × ABlk)) (Ia : Nat → Nat → Prop) (φa : Phi) (wa : World)
    (hq : ∀ a' w', Kp n0 K Ia φa Ha wa a' w' → Q' .normal a' w') {done rest : List Nat} (hlin : Lin ops done rest) :
    ∀ (orest c : List Nat) (st : St) (a aC : Act) (I : Nat → Nat → Prop) (φ : Phi) (w : World), (∀ i ∈ done, ∀ j ∈ predsOf ops i, j ∈ done) → PWd P n0 r ops eff K orest c st → R I φ st aC w → Ahead ops c done a aC → (∀ i ∈ orest, i ∉ done) → (∀ i, i < ops.size → i ∈ done ∨ i ∈ c ∨ i ∈ orest) →
      (∀ j ∈ c, j ∉ eff) → eager2 ops eff orest = true → (∀ j ∈ orest, j < ops.size) → rest.filter eff.contains = orest.filter eff.contains → n0 ≤ st.nx → Ev n0 Ia φa Ha wa I φ st.h w → rnd φ r b → wpOpsIn (FW b) 0 P ops Q' rest a w := by
  induction hlin with
  | nil done hall =>
    intro orest c st a aC I φ w _ hP hR hA h4 h5 h6 h7 h8 hE hn hev hb
    obtain ⟨rest', c', st', aC', g1, g2, g3, g4, g5, g6, g7, g8, g9, g10, g11, g12, g13, g14⟩ := advance2 ok orest c st aC I φ w a done hP hR hA h4 h5 h6 h7 h8
    have hnil : rest' = [] := by
      rcases g13 with h | ⟨i, r', rfl, _⟩
      · exact h
      · exact absurd (hall i (g8 i (by simp))) (g4 i (by simp))
    subst hnil
    have hag : ∀ t, a.tmps.getD t undef = aC'.tmps.getD t undef := fun t => g3.agree t fun j hj hn hd => hn (hall j (dstOf_lt hd))
    have hRa : R I φ st' a w := ⟨g2.rh, by rw [g3.size]; exact g2.size, fun t sv ht => by rw [hag]; exact g2.slot t sv ht, by rw [g3.dfs]; exact g2.dlen, fun k i hk => by
      obtain ⟨b, c, e1, e2⟩ := g2.dmark k i hk
      exact ⟨b, c, e1, by rw [g3.dfs]; exact e2⟩⟩
    exact hq a w ⟨st', I, φ, g1.2, hRa, by rw [g10]; exact hn, by rw [g11]; exact hev⟩
  | cons done i rest hi hnd hp hl ih =>
    intro orest c st a aC I φ w hcl hP hR hA h4 h5 h6 h7 h8 hE hn hev hb
    obtain ⟨orest, c, st', aC', hP, hR, hA, h4, h5, h6, h7, h8, e9, e10, e11, e12, hhead, e14⟩ := advance2 ok orest c st aC I φ w a done hP hR hA h4 h5 h6 h7 h8
    rw [← e14] at hE
    have hn : n0 ≤ st'.nx := by rw [e10]; exact hn
    have hev : Ev n0 Ia φa Ha wa I φ st'.h w := by rw [e11]; exact hev
    clear e9 e10 e11 e12
    have hcl' : ∀ k ∈ i :: done, ∀ j ∈ predsOf ops k, j ∈ i :: done := fun k hk j hj => by
      rcases List.mem_cons.1 hk with rfl | hk
      · exact List.mem_cons_of_mem _ (hp j hj)
      · exact List.mem_cons_of_mem _ (hcl k hk j hj)
    have ho : ops[i]? = some ops[i] := Array.getElem?_eq_getElem hi
    obtain ⟨o, ho'⟩ : ∃ o, o = ops[i] := ⟨_, rfl⟩
    rw [← ho'] at ho
    clear ho'
    -- what the operation reads is the same on both sides
    have hread : ∀ t ∈ opTmps ops o, a.tmps.getD t undef = aC'.tmps.getD t undef := fun t ht => hA.agree t fun j hj hjn hd => by
      rcases ok.rd i o ho t ht j hd with h | h
      · exact hjn (hp j h)
      · exact h6 j hj h
    have hops : ∀ x ∈ o.op.operands, aC'.eval x = a.eval x := fun x hx => by
      cases x with
      | tmp t => exact (hread t (by unfold opTmps; simp only [List.mem_append, List.mem_filterMap]; exact .inl ⟨.tmp t, by simpa using hx, rfl⟩)).symm
      | _ => rfl
    have hyield : yielded ops a.tmps = yielded ops a.tmps := rfl
    have hw : ∀ k, gate ops st' o = some k → Region.wanted o (yielded ops a.tmps) = k := fun k hk => by
      rw [← gate_wanted hR hk]
      cases hg : o.guard with
      | none => simp [Region.wanted, hg]
      | some q =>
        obtain ⟨j, want⟩ := q
        simp only [Region.wanted, hg]
        congr 1
        unfold yielded
        cases hd : (ops[j]?).bind (·.dst) with
        | none => rfl
        | some t =>
          have := hread t (by unfold opTmps; rw [hg]; simp only [List.mem_append]; right; show t ∈ (dstOf ops j).toList; unfold dstOf; rw [hd]; simp)
          rw [Array.getD_eq_getD_getElem?, Array.getD_eq_getD_getElem?] at this
          simp only [Option.bind_some]
          cases hx : a.tmps[t]? with
          | none =>
            rw [hx] at this
            cases hy : aC'.tmps[t]? with
            | none => rfl
            | some y =>
              rw [Array.getElem?_eq_none_iff] at hx
              have := (Array.getElem?_eq_some_iff.1 hy).1
              have := hA.size
              omega
          | some x =>
            rw [hx] at this
            cases hy : aC'.tmps[t]? with
            | none =>
              rw [Array.getElem?_eq_none_iff] at hy
              have := (Array.getElem?_eq_some_iff.1 hx).1
              have := hA.size
              omega
            | some y => rw [hy] at this; simp only [Option.getD_some] at this; rw [this]
    simp only [wpOpsIn, ho]
    by_cases hic : i ∈ c
    · -- an operation that the canonical order has carried out already
      have hEc : rest.filter eff.contains = orest.filter eff.contains := by
        rw [← hE, List.filter_cons, if_neg (by simpa using h6 i hic)]
      have hst : ∀ j ∈ c, Stable P n0 r ops j st' := by
        rcases hhead with rfl | ⟨e, r', rfl, he⟩
        · exact hP.1
        · unfold PWd at hP
          rw [if_pos (by simpa using he)] at hP
          exact hP.1
      obtain ⟨o2, d, sv, ho2, hd, hlk, hdn, hrun⟩ := hst i hic
      rw [ho] at ho2; cases ho2
      have hdo : dstOf ops i = some d := by unfold dstOf; rw [ho]; exact hd
      rcases hrun with ⟨hg, hrun⟩ | ⟨hg, rfl⟩
      · rw [if_pos (hw true hg)]
        refine wpIn_transfer (ok.nd i o ho).1 (ok.nd i o ho).2 hA.dfs.symm hops (hrun I φ aC' w b hR hn hr hb (fun a' w' => Kp n0 (fun s => s = st'.put (some d) sv) I φ st'.h w a' w') (fun _ _ _ => False) fun a' w' k => k) fun v ds w' hk => ?_
        obtain ⟨s, I', φ', rfl, hR', hn', hev'⟩ := hk
        rw [hd] at hR' ⊢
        have hR2 : R I' φ' st' (Act.put { aC' with defers := ds } (some d) v) w' := hR'.same rfl rfl rfl rfl fun t sv' ht => by
          rw [lk_put]
          by_cases e : d = t
          · subst e; rw [hlk] at ht; rw [if_pos rfl]; exact ht
          · rw [if_neg e]; exact ht
        have hA0 : Ahead ops c done { a with defers := ds } { aC' with defers := ds } := ⟨hA.size, rfl, hA.agree⟩
        exact ih orest c st' _ _ I' φ' w' hcl' hP hR2 (hA0.put i hdo v) (fun j hj hm => by
          rcases List.mem_cons.1 hm with rfl | hm
          · exact absurd hj (by
              intro hj'
              rcases hhead with rfl | ⟨e, r', rfl, he⟩
              · simp at hj'
              · have hie : j ∉ eff := h6 j hic
                rcases List.mem_cons.1 hj' with rfl | hj''
                · exact hie he
                · -- it would wait for something that has not been done
                  exact blocked2 h7 he hj'' hie fun k hk1 hk2 => h4 k hk2 (hp k hk1))
          · exact h4 j hj hm) (fun j hj => by
          rcases h5 j hj with h | h | h
          · exact .inl (by simp [h])
          · exact .inr (.inl h)
          · exact .inr (.inr h)) h6 h7 h8 hEc hn (hev.trans hev') (rnd_ev hev' hr hb)
      · rw [if_neg (by rw [hw false hg]; simp)]
        refine ⟨fun _ _ => trivial, ?_⟩
        rw [hd]
        have hR2 : R I φ st' (aC'.put (some d) undef) w := (hR.put (d := some d) (by simpa [St.fits] using hdn) srel_undef).same rfl rfl rfl rfl fun t sv' ht => by
          rw [lk_put]
          by_cases e : d = t
          · subst e; rw [hlk] at ht; rw [if_pos rfl]; exact ht
          · rw [if_neg e]; exact ht
        exact ih orest c st' _ _ I φ w hcl' hP hR2 (hA.put i hdo undef) (fun j hj hm => by
          rcases List.mem_cons.1 hm with rfl | hm
          · exact absurd hj (by
              intro hj'
              rcases hhead with rfl | ⟨e, r', rfl, he⟩
              · simp at hj'
              · have hie : j ∉ eff := h6 j hic
                rcases List.mem_cons.1 hj' with rfl | hj''
                · exact hie he
                · exact blocked2 h7 he hj'' hie fun k hk1 hk2 => h4 k hk2 (hp k hk1))
          · exact h4 j hj hm) (fun j hj => by
          rcases h5 j hj with h | h | h
          · exact .inl (by simp [h])
          · exact .inr (.inl h)
          · exact .inr (.inr h)) h6 h7 h8 hEc hn hev hb
    · -- the next operation of the canonical order
      have hio : i ∈ orest := by
        rcases h5 i hi with h | h | h
        · exact absurd h hnd
        · exact absurd h hic
        · exact h
      obtain ⟨e, r', rfl, he⟩ : ∃ e r', orest = e :: r' ∧ e ∈ eff := by
        rcases hhead with rfl | ⟨e, r', rfl, he⟩
        · simp at hio
        · exact ⟨e, r', rfl, he⟩
      have hie : i = e := by
        rcases List.mem_cons.1 hio with h | h
        · exact h
        · exfalso
          by_cases hie : i ∈ eff
          · have hi1 : eff.contains i = true := by simpa using hie
            have he1 : eff.contains e = true := by simpa using he
            rw [List.filter_cons, hi1, if_pos rfl, List.filter_cons, he1, if_pos rfl] at hE
            have heq := (List.cons.inj hE).1
            subst heq
            exact nodup2 h7 he h
          · exact blocked2 h7 he h hie fun k hk1 hk2 => h4 k hk2 (hp k hk1)
      subst hie
      unfold PWd at hP
      rw [if_pos (by simpa using he)] at hP
      obtain ⟨_, o2, ho2, hrun⟩ := hP
      rw [ho] at ho2; cases ho2
      have hdo : dstOf ops i = o.dst := by unfold dstOf; rw [ho]; rfl
      have hin : ∀ j ∈ reach ops 6 (predsOf ops i), j ∈ i :: done := reach_sub hcl' 6 _ fun j hj => List.mem_cons_of_mem _ (hp j hj)
      have hsub : ∀ j, j ∈ c → j ∉ i :: done → j ∈ c.filter fun j => !(reach ops 6 (predsOf ops i)).contains j := fun j hj hjn => by
        rw [List.mem_filter]
        refine ⟨hj, ?_⟩
        have : ¬ j ∈ reach ops 6 (predsOf ops i) := fun h => hjn (hin j h)
        simpa using this
      have q4 : ∀ j ∈ r', j ∉ i :: done := fun j hj hm => by
        rcases List.mem_cons.1 hm with rfl | hm
        · exact absurd hj (nodup2 h7 he)
        · exact h4 j (by simp [hj]) hm
      have q5 : ∀ j, j < ops.size → j ∈ i :: done ∨ j ∈ (c.filter fun j => !(reach ops 6 (predsOf ops i)).contains j) ∨ j ∈ r' := fun j hj => by
        rcases h5 j hj with h | h | h
        · exact .inl (by simp [h])
        · by_cases hjn : j ∈ i :: done
          · exact .inl hjn
          · exact .inr (.inl (hsub j h hjn))
        · rcases List.mem_cons.1 h with rfl | h
          · exact .inl (by simp)
          · exact .inr (.inr h)
      have hE' : rest.filter eff.contains = r'.filter eff.contains := by
        have he1 : eff.contains i = true := by simpa using he
        rw [List.filter_cons, he1, if_pos rfl, List.filter_cons, he1, if_pos rfl] at hE
        exact (List.cons.inj hE).2
      have q7 : eager2 ops eff r' = true := by simp only [eager2, Bool.and_eq_true] at h7; exact h7.2
      rcases hrun with ⟨hg, hrun⟩ | ⟨hg, hfit, hrun⟩
      · rw [if_pos (hw true hg)]
        refine wpIn_transfer (ok.nd i o ho).1 (ok.nd i o ho).2 hA.dfs.symm hops (hrun I φ aC' w b hR hn hr hb (fun a' w' => Kp n0 _ I φ st'.h w a' w') (fun _ _ _ => False) fun a' w' k => k) fun v ds w' hk => ?_
        obtain ⟨s, I', φ', hP', hR', hn', hev'⟩ := hk
        have hA0 : Ahead ops c done { a with defers := ds } { aC' with defers := ds } := ⟨hA.size, rfl, hA.agree⟩
        have hA1 := hA0.put i hdo v
        exact ih r' _ s _ _ I' φ' w' hcl' hP' hR' ⟨hA1.size, hA1.dfs, fun t ht => hA1.agree t fun j hj hjn => ht j (hsub j hj hjn) hjn⟩ q4 q5 (fun j hj => h6 j (List.mem_filter.1 hj).1) q7 (fun j hj => h8 j (by simp [hj])) hE' hn' (hev.trans hev') (rnd_ev hev' hr hb)
      · rw [if_neg (by rw [hw false hg]; simp)]
        refine ⟨fun _ _ => trivial, ?_⟩
        have hA1 := hA.put i hdo undef
        have hRp := hR.put hfit (srel_undef (I := I) (φ := φ) (w := w))
        have hh : (st'.put o.dst (.tup [])).h = st'.h := by cases o.dst <;> rfl
        exact ih r' _ _ _ _ I φ w hcl' hrun hRp ⟨hA1.size, hA1.dfs, fun t ht => hA1.agree t fun j hj hjn => ht j (hsub j hj hjn) hjn⟩ q4 q5 (fun j hj => h6 j (List.mem_filter.1 hj).1) q7 (fun j hj => h8 j (by simp [hj])) hE' (by cases o.dst <;> exact hn) (by rw [hh]; exact hev) hb
theorem Lin.prec {ops : Array Oper} {done rest : List Nat} (h : Lin ops done rest) : ∀ (l1 : List Nat) (i : Nat) (l2 : List Nat), rest = l1 ++ i :: l2 → (∀ i ∈ done, ∀ j ∈ predsOf ops i, j ∈ done) → ∀ j ∈ reach ops 6 (predsOf ops i), j ∈ done ∨ j ∈ l1 := by
  induction h with
  | nil done hall => intro l1 i l2 h; simp at h
  | cons done k rest hi hnd hp hl ih =>
    intro l1 i l2 h hcl
    match l1, h with
    | [], h =>
      simp only [List.nil_append, List.cons.injEq] at h
      obtain ⟨rfl, rfl⟩ := h
      exact fun j hj => .inl (reach_sub hcl 6 _ hp j hj)
    | x :: l1, h =>
      simp only [List.cons_append, List.cons.injEq] at h
      obtain ⟨rfl, rfl⟩ := h
      intro j hj
      rcases ih l1 i l2 rfl (fun a ha b hb => by
        rcases List.mem_cons.1 ha with rfl | ha
        · exact List.mem_cons_of_mem _ (hp b hb)
        · exact List.mem_cons_of_mem _ (hcl a ha b hb)) j hj with h | h
      · rcases List.mem_cons.1 h with rfl | h
        · exact .inr (by simp)
        · exact .inl h
      · exact .inr (by simp [h])
/-- Do these orders stand for all? -/
def cov (ops : Array Oper) (eff : List Nat) (ords : List (List Nat)) : Nat → List Nat → List Nat → Bool
  | 0, pre, left => left.isEmpty && ords.any fun o => o.filter eff.contains == pre
  | n + 1, pre, left => left.all fun e => (left.any fun j => j != e && (reach ops 6 (predsOf ops e)).contains j) || cov ops eff ords n (pre ++ [e]) (left.erase e)
theorem cov_ok {ops : Array Oper} {eff : List Nat} {ords : List (List Nat)} : ∀ (n : Nat) (pre left es : List Nat), cov ops eff ords n pre left = true → left.length = n → left.Nodup → es.Nodup → (∀ x, x ∈ es ↔ x ∈ left) →
    (∀ l1 e l2, es = l1 ++ e :: l2 → ∀ j ∈ reach ops 6 (predsOf ops e), j ∈ es → j ∈ l1) → ∃ o ∈ ords, o.filter eff.contains = pre ++ es
  | 0, pre, left, es, h, hl, _, _, hm, _ => by
    obtain rfl := List.eq_nil_of_length_eq_zero hl
    have hes : es = [] := List.eq_nil_iff_forall_not_mem.2 fun x hx => by simpa using (hm x).1 hx
    subst hes
    simp only [cov, List.isEmpty_nil, Bool.true_and, List.any_eq_true, beq_iff_eq] at h
    obtain ⟨o, ho, he⟩ := h
    exact ⟨o, ho, by simpa using he⟩
  | n + 1, pre, left, [], h, hl, hn, _, hm, _ => by
    match left, hl with
    | x :: left, _ => simpa using (hm x).2 (by simp)
  | n + 1, pre, left, e :: es, h, hl, hn, hen, hm, hp => by
    simp only [cov, List.all_eq_true, Bool.or_eq_true] at h
    have hel := (hm e).1 (by simp)
    obtain ⟨he1, he2⟩ := List.nodup_cons.1 hen
    rcases h e hel with h1 | h1
    · obtain ⟨j, hj, hj2⟩ := List.any_eq_true.1 h1
      rw [Bool.and_eq_true] at hj2
      have := hp [] e es rfl j (by simpa using hj2.2) ((hm j).2 hj)
      simp at this
    · obtain ⟨o, ho, hoe⟩ := cov_ok n (pre ++ [e]) (left.erase e) es h1 (by rw [List.length_erase_of_mem hel]; omega) (hn.erase e) he2 (fun x => by
        rw [hn.mem_erase_iff]
        constructor
        · intro hx
          exact ⟨fun e' => he1 (e' ▸ hx), (hm x).1 (by simp [hx])⟩
        · rintro ⟨h2, h3⟩
          rcases List.mem_cons.1 ((hm x).2 h3) with h4 | h4
          · exact absurd h4 h2
          · exact h4) (fun l1 f l2 hf j hj hjm => by
        have := hp (e :: l1) f l2 (by rw [hf]; rfl) j hj (by simp [hjm])
        rcases List.mem_cons.1 this with h4 | h4
        · exact absurd (h4 ▸ hjm) he1
        · exact h4)
      exact ⟨o, ho, by simpa using hoe⟩
theorem filter_split {p : Nat → Bool} : ∀ {l : List Nat} {l1 : List Nat} {e : Nat} {l2 : List Nat}, l.filter p = l1 ++ e :: l2 → ∃ m1 m2, l = m1 ++ e :: m2 ∧ l1 = m1.filter p
  | [], l1, e, l2, h => by simp at h
  | x :: l, l1, e, l2, h => by
    rw [List.filter_cons] at h
    by_cases hx : p x = true
    · rw [if_pos hx] at h
      match l1, h with
      | [], h =>
        simp only [List.nil_append, List.cons.injEq] at h
        obtain ⟨rfl, h⟩ := h
        exact ⟨[], l, rfl, rfl⟩
      | y :: l1, h =>
        simp only [List.cons_append, List.cons.injEq] at h
        obtain ⟨rfl, h⟩ := h
        obtain ⟨m1, m2, h1, h2⟩ := filter_split h
        exact ⟨x :: m1, m2, by rw [h1]; rfl, by rw [List.filter_cons, if_pos hx, h2]⟩
    · rw [if_neg hx] at h
      obtain ⟨m1, m2, h1, h2⟩ := filter_split h
      exact ⟨x :: m1, m2, by rw [h1]; rfl, by rw [List.filter_cons, if_neg hx, h2]⟩
/-- **A region that leaves its order open: some orders stand for all.** -/
theorem pws_draws {i : Nat} {ops : Array Oper} {l : List Code} {Q : Exit → St → Prop} {st : St} (eff : List Nat) (ords : List (List Nat)) (alt ord0 : List Nat) (h0 : ord0 ∈ ords) (hok : (ords.all fun ord => drawOk2 ops eff ord alt) = true)
    (heff : (decide eff.Nodup && eff.all fun e => decide (e < ops.size)) = true) (hcov : cov ops eff ords eff.length [] eff = true)
    (h : ∀ ord ∈ ords, PWd P n0 r ops eff (PWs P n0 r l Q) ord [] st) : PWs P n0 r (.region i ops true :: l) Q st := by
  intro I φ a w l' hR hn hr hl
  refine wpIn_region_draw fun t => ?_
  have hok0 := List.all_eq_true.1 hok ord0 h0
  have hok' := hok0
  simp only [drawOk2, Bool.and_eq_true] at hok'
  obtain ⟨o2, ho2⟩ : ∃ o2, validOrd .text ops o2 = true := by
    have := hok'.1.1.1.1.2
    rcases Bool.or_eq_true_iff.1 this with h | h
    · exact ⟨_, h⟩
    · exact ⟨_, h⟩
  obtain ⟨o3, ho3⟩ : ∃ o3, (validOrd .gc ops o3 || !Region.departs ops) = true := by
    have := hok'.1.1.1.2
    cases h1 : validOrd .gc ops ord0 with
    | true => exact ⟨ord0, by rw [h1]; rfl⟩
    | false =>
      rw [h1] at this
      exact ⟨alt, by simpa using this⟩
  obtain ⟨rest, hs, hlin⟩ := sched_lin hok'.1.1.1.1.1 ho2 ho3 (P.follows .mixedOrders) t
  rw [hs]
  rw [Bool.and_eq_true] at heff
  have hnd : eff.Nodup := by simpa using heff.1
  obtain ⟨m1, m2, m3⟩ := hlin.mem
  obtain ⟨ord, hord, hE⟩ := cov_ok eff.length [] eff (rest.filter eff.contains) hcov rfl hnd (m2.filter _) (fun x => by
    rw [List.mem_filter]
    constructor
    · rintro ⟨_, h⟩; simpa using h
    · intro hx
      have := List.all_eq_true.1 heff.2 x hx
      rcases m1 x (by simpa using this) with h | h
      · simp at h
      · exact ⟨h, by simpa using hx⟩) (fun l1 e l2 hf j hj hjm => by
    obtain ⟨k1, k2, g1, g2⟩ := filter_split hf
    rcases hlin.prec k1 e k2 g1 (fun i hi => by simp at hi) j hj with h | h
    · simp at h
    · rw [g2, List.mem_filter]
      exact ⟨h, (List.mem_filter.1 hjm).2⟩)
  have ok := drawOk2_ok (List.all_eq_true.1 hok ord hord)
  have hR' : R I φ st a { w with drawn := w.drawn + 1 } := hR.world rfl
  have hev : Ev n0 I φ st.h w I φ st.h { w with drawn := w.drawn + 1 } := ⟨rfl, rfl, rfl, Nat.le_succ _, Nat.le_refl _, fun _ _ h => h, fun _ _ _ => rfl, fun _ h => .inl h, fun _ _ h => .inl h, fun _ _ _ _ h => h, fun _ _ _ => rfl, fun _ _ h => h⟩
  exact draw_run2 ok hr l' _ st.h I φ w (fun a' w' k => k) hlin ord [] st a a I φ _ (fun i hi => by simp at hi) (h ord hord) hR' ⟨rfl, rfl, fun _ _ => rfl⟩ (fun i _ h => by simp at h) (fun i hi => .inr (.inr (ok.cover i hi))) (fun j hj => by simp at hj) ok.eag ok.inb (by simpa using hE.symm) hn hev hl
end Go.Vc
namespace Go.Proofs.T1
open Go.Vc
open Tryz
set_option linter.unusedSimpArgs false
set_option linter.unusedVariables false
set_option maxHeartbeats 4000000
set_option maxRecDepth 20000
attribute [local simp] runD_nil runD_cons runDO runDG runDV stabs stabO stabG runK_nil runK_cons runG_t runG_f runS_some runS_none gate dstOf step2 step1 vq vop vlook mput mfind isKeyB keq fin1 hbox halloc hstore hbuild hbuildSlice happend hmake vslice bound vbuild partsOf elemsOf inOrder topvs toPV svCells splice srcOf isNil St.ev St.evs St.fits St.put St.new St.upd St.frzs St.frz lk hset litOf vbuiltin vlen vbin vindex vfield vload rdc pvs capsOf Value.oneCell'
attribute [local simp] tsz3 tagg3 tbytes3 tint3 tzero3 tzero1_3 tsz4 tagg4 tbytes4 tbool4 tzero4 tzero1_4 tsz5 tagg5 tbytes5 tint5 tzero5 tzero1_5 tsz9 tagg9 tbytes9 tstr9 tzero9 tzero1_9 tsz22 tagg22 tel22 tbytes22 tzero22 tzero1_22 tsz23 tagg23 tel23 tbytes23 tzero23 tzero1_23 tsz24 tagg24 tel24 tbytes24 tzero24 tzero1_24 tsz25 tagg25 tbytes25 tzero25 tzero1_25 tsz29 tagg29 tel29 tbytes29 tzero29 tzero1_29 tsz30 tagg30 tel30 tbytes30 tzero30 tzero1_30 tsz32 tagg32 tbytes32 tzero32 foff32_0 foff32_1 foff32_2 foff32_3 foff32_4 foff32_5 foff32_6 foff32_7 foff32_8 foff32_9 tsz33 tagg33 tel33 tbytes33 tzero33 tzero1_33 tsz34 tagg34 tbytes34 tint34 tzero34 tzero1_34 tsz38 tagg38 tbytes38 tzero38 foff38_0 foff38_1 foff38_2 tsz47 tagg47 tel47 tbytes47 tzero47 tzero1_47 tsz52 tagg52 tel52 tbytes52 tzero52 tzero1_52 tsz54 tagg54 tbytes54 tzero54 foff54_0 foff54_1 foff54_2 foff54_3 foff54_4 foff54_5 tsz79 tagg79 tbytes79 tzero79 foff79_0 foff79_1 foff79_2 tsz117 tagg117 tbytes117 tzero117 foff117_0 foff117_1 foff117_2 tsz119 tagg119 tbytes119 tzero119 foff119_0 foff119_1 tsz121 tagg121 tbytes121 tzero121 foff121_0 foff121_1 foff121_2 foff121_3 tsz129 tagg129 tbytes129 tzero129 tzero1_129 tsz130 tagg130 tbytes130 tzero130 tzero1_130 tsz132 tagg132 tbytes132 tzero132 tzero1_132 tsz206 tagg206 tbytes206 tzero206 tzero1_206 mtype206 tsz208 tagg208 tbytes208 tsz217 tagg217 tel217 tbytes217 tzero217 tzero1_217 tsz220 tagg220 tbytes220 tzero220 foff220_0 foff220_1 tsz235 tagg235 tel235 tbytes235 tzero235 tzero1_235 tsz256 tagg256 tbytes256 tzero256 tzero1_256 mtype256 tsz351 tagg351 tbytes351 tzero351 tsz2 tagg2 tbytes2 tint2 tzero2 tzero1_2 tsz291 tagg291 tbytes291 tint291 tzero291 tzero1_291 sized32 places32_0 places32_1 places32_2 places32_3 places32_4 places32_5 places32_6 places32_7 places32_8 places32_9 sized38 places38_0 places38_1 places38_2 sized54 places54_0 places54_1 places54_2 places54_3 places54_4 places54_5 sized79 places79_0 places79_1 places79_2 sized117 places117_0 places117_1 places117_2 sized119 places119_0 places119_1 sized121 places121_0 places121_1 places121_2 places121_3 sized220 places220_0 places220_1
attribute [local simp] V.c V.z Sd.c Tst.c Fx.c Rl.c Fc.c Gr.c wrap1f take_map_len take_map_len1 wrap1 wrap2 wrap3
end Go.Proofs.T1
namespace Go.Proofs.T1
open Go.Vc
open Tryz
set_option linter.unusedSimpArgs false
set_option linter.unusedVariables false
set_option maxHeartbeats 4000000
set_option maxRecDepth 20000
attribute [local simp] runD_nil runD_cons runDO runDG runDV stabs stabO stabG runK_nil runK_cons runG_t runG_f runS_some runS_none gate dstOf step2 step1 vq vop vlook mput mfind isKeyB keq fin1 hbox halloc hstore hbuild hbuildSlice happend hmake vslice bound vbuild partsOf elemsOf inOrder topvs toPV svCells splice srcOf isNil St.ev St.evs St.fits St.put St.new St.upd St.frzs St.frz lk hset litOf vbuiltin vlen vbin vindex vfield vload rdc pvs capsOf Value.oneCell'
attribute [local simp] tsz3 tagg3 tbytes3 tint3 tzero3 tzero1_3 tsz4 tagg4 tbytes4 tbool4 tzero4 tzero1_4 tsz5 tagg5 tbytes5 tint5 tzero5 tzero1_5 tsz9 tagg9 tbytes9 tstr9 tzero9 tzero1_9 tsz22 tagg22 tel22 tbytes22 tzero22 tzero1_22 tsz23 tagg23 tel23 tbytes23 tzero23 tzero1_23 tsz24 tagg24 tel24 tbytes24 tzero24 tzero1_24 tsz25 tagg25 tbytes25 tzero25 tzero1_25 tsz29 tagg29 tel29 tbytes29 tzero29 tzero1_29 tsz30 tagg30 tel30 tbytes30 tzero30 tzero1_30 tsz32 tagg32 tbytes32 tzero32 foff32_0 foff32_1 foff32_2 foff32_3 foff32_4 foff32_5 foff32_6 foff32_7 foff32_8 foff32_9 tsz33 tagg33 tel33 tbytes33 tzero33 tzero1_33 tsz34 tagg34 tbytes34 tint34 tzero34 tzero1_34 tsz38 tagg38 tbytes38 tzero38 foff38_0 foff38_1 foff38_2 tsz47 tagg47 tel47 tbytes47 tzero47 tzero1_47 tsz52 tagg52 tel52 tbytes52 tzero52 tzero1_52 tsz54 tagg54 tbytes54 tzero54 foff54_0 foff54_1 foff54_2 foff54_3 foff54_4 foff54_5 tsz79 tagg79 tbytes79 tzero79 foff79_0 foff79_1 foff79_2 tsz117 tagg117 tbytes117 tzero117 foff117_0 foff117_1 foff117_2 tsz119 tagg119 tbytes119 tzero119 foff119_0 foff119_1 tsz121 tagg121 tbytes121 tzero121 foff121_0 foff121_1 foff121_2 foff121_3 tsz129 tagg129 tbytes129 tzero129 tzero1_129 tsz130 tagg130 tbytes130 tzero130 tzero1_130 tsz132 tagg132 tbytes132 tzero132 tzero1_132 tsz206 tagg206 tbytes206 tzero206 tzero1_206 mtype206 tsz208 tagg208 tbytes208 tsz217 tagg217 tel217 tbytes217 tzero217 tzero1_217 tsz220 tagg220 tbytes220 tzero220 foff220_0 foff220_1 tsz235 tagg235 tel235 tbytes235 tzero235 tzero1_235 tsz256 tagg256 tbytes256 tzero256 tzero1_256 mtype256 tsz351 tagg351 tbytes351 tzero351 tsz2 tagg2 tbytes2 tint2 tzero2 tzero1_2 tsz291 tagg291 tbytes291 tint291 tzero291 tzero1_291 sized32 places32_0 places32_1 places32_2 places32_3 places32_4 places32_5 places32_6 places32_7 places32_8 places32_9 sized38 places38_0 places38_1 places38_2 sized54 places54_0 places54_1 places54_2 places54_3 places54_4 places54_5 sized79 places79_0 places79_1 places79_2 sized117 places117_0 places117_1 places117_2 sized119 places119_0 places119_1 sized121 places121_0 places121_1 places121_2 places121_3 sized220 places220_0 places220_1
attribute [local simp] V.c V.z Sd.c Tst.c Fx.c Rl.c Fc.c Gr.c wrap1f take_map_len take_map_len1 wrap1 wrap2 wrap3
end Go.Proofs.T1
namespace Go.Proofs.T1
open Go.Vc
open Tryz
set_option linter.unusedSimpArgs false
set_option linter.unusedVariables false
set_option maxHeartbeats 4000000
set_option maxRecDepth 20000
attribute [local simp] runD_nil runD_cons runDO runDG runDV stabs stabO stabG runK_nil runK_cons runG_t runG_f runS_some runS_none gate dstOf step2 step1 vq vop vlook mput mfind isKeyB keq fin1 hbox halloc hstore hbuild hbuildSlice happend hmake vslice bound vbuild partsOf elemsOf inOrder topvs toPV svCells splice srcOf isNil St.ev St.evs St.fits St.put St.new St.upd St.frzs St.frz lk hset litOf vbuiltin vlen vbin vindex vfield vload rdc pvs capsOf Value.oneCell'
attribute [local simp] tsz3 tagg3 tbytes3 tint3 tzero3 tzero1_3 tsz4 tagg4 tbytes4 tbool4 tzero4 tzero1_4 tsz5 tagg5 tbytes5 tint5 tzero5 tzero1_5 tsz9 tagg9 tbytes9 tstr9 tzero9 tzero1_9 tsz22 tagg22 tel22 tbytes22 tzero22 tzero1_22 tsz23 tagg23 tel23 tbytes23 tzero23 tzero1_23 tsz24 tagg24 tel24 tbytes24 tzero24 tzero1_24 tsz25 tagg25 tbytes25 tzero25 tzero1_25 tsz29 tagg29 tel29 tbytes29 tzero29 tzero1_29 tsz30 tagg30 tel30 tbytes30 tzero30 tzero1_30 tsz32 tagg32 tbytes32 tzero32 foff32_0 foff32_1 foff32_2 foff32_3 foff32_4 foff32_5 foff32_6 foff32_7 foff32_8 foff32_9 tsz33 tagg33 tel33 tbytes33 tzero33 tzero1_33 tsz34 tagg34 tbytes34 tint34 tzero34 tzero1_34 tsz38 tagg38 tbytes38 tzero38 foff38_0 foff38_1 foff38_2 tsz47 tagg47 tel47 tbytes47 tzero47 tzero1_47 tsz52 tagg52 tel52 tbytes52 tzero52 tzero1_52 tsz54 tagg54 tbytes54 tzero54 foff54_0 foff54_1 foff54_2 foff54_3 foff54_4 foff54_5 tsz79 tagg79 tbytes79 tzero79 foff79_0 foff79_1 foff79_2 tsz117 tagg117 tbytes117 tzero117 foff117_0 foff117_1 foff117_2 tsz119 tagg119 tbytes119 tzero119 foff119_0 foff119_1 tsz121 tagg121 tbytes121 tzero121 foff121_0 foff121_1 foff121_2 foff121_3 tsz129 tagg129 tbytes129 tzero129 tzero1_129 tsz130 tagg130 tbytes130 tzero130 tzero1_130 tsz132 tagg132 tbytes132 tzero132 tzero1_132 tsz206 tagg206 tbytes206 tzero206 tzero1_206 mtype206 tsz208 tagg208 tbytes208 tsz217 tagg217 tel217 tbytes217 tzero217 tzero1_217 tsz220 tagg220 tbytes220 tzero220 foff220_0 foff220_1 tsz235 tagg235 tel235 tbytes235 tzero235 tzero1_235 tsz256 tagg256 tbytes256 tzero256 tzero1_256 mtype256 tsz351 tagg351 tbytes351 tzero351 tsz2 tagg2 tbytes2 tint2 tzero2 tzero1_2 tsz291 tagg291 tbytes291 tint291 tzero291 tzero1_291 sized32 places32_0 places32_1 places32_2 places32_3 places32_4 places32_5 places32_6 places32_7 places32_8 places32_9 sized38 places38_0 places38_1 places38_2 sized54 places54_0 places54_1 places54_2 places54_3 places54_4 places54_5 sized79 places79_0 places79_1 places79_2 sized117 places117_0 places117_1 places117_2 sized119 places119_0 places119_1 sized121 places121_0 places121_1 places121_2 places121_3 sized220 places220_0 places220_1
attribute [local simp] V.c V.z Sd.c Tst.c Fx.c Rl.c Fc.c Gr.c wrap1f take_map_len take_map_len1 wrap1 wrap2 wrap3
end Go.Proofs.T1
namespace Go.Proofs.T1
open Go.Vc
open Tryz
set_option linter.unusedSimpArgs false
set_option linter.unusedVariables false
set_option maxHeartbeats 4000000
set_option maxRecDepth 20000
attribute [local simp] runD_nil runD_cons runDO runDG runDV stabs stabO stabG runK_nil runK_cons runG_t runG_f runS_some runS_none gate dstOf step2 step1 vq vop vlook mput mfind isKeyB keq fin1 hbox halloc hstore hbuild hbuildSlice happend hmake vslice bound vbuild partsOf elemsOf inOrder topvs toPV svCells splice srcOf isNil St.ev St.evs St.fits St.put St.new St.upd St.frzs St.frz lk hset litOf vbuiltin vlen vbin vindex vfield vload rdc pvs capsOf Value.oneCell'
attribute [local simp] tsz3 tagg3 tbytes3 tint3 tzero3 tzero1_3 tsz4 tagg4 tbytes4 tbool4 tzero4 tzero1_4 tsz5 tagg5 tbytes5 tint5 tzero5 tzero1_5 tsz9 tagg9 tbytes9 tstr9 tzero9 tzero1_9 tsz22 tagg22 tel22 tbytes22 tzero22 tzero1_22 tsz23 tagg23 tel23 tbytes23 tzero23 tzero1_23 tsz24 tagg24 tel24 tbytes24 tzero24 tzero1_24 tsz25 tagg25 tbytes25 tzero25 tzero1_25 tsz29 tagg29 tel29 tbytes29 tzero29 tzero1_29 tsz30 tagg30 tel30 tbytes30 tzero30 tzero1_30 tsz32 tagg32 tbytes32 tzero32 foff32_0 foff32_1 foff32_2 foff32_3 foff32_4 foff32_5 foff32_6 foff32_7 foff32_8 foff32_9 tsz33 tagg33 tel33 tbytes33 tzero33 tzero1_33 tsz34 tagg34 tbytes34 tint34 tzero34 tzero1_34 tsz38 tagg38 tbytes38 tzero38 foff38_0 foff38_1 foff38_2 tsz47 tagg47 tel47 tbytes47 tzero47 tzero1_47 tsz52 tagg52 tel52 tbytes52 tzero52 tzero1_52 tsz54 tagg54 tbytes54 tzero54 foff54_0 foff54_1 foff54_2 foff54_3 foff54_4 foff54_5 tsz79 tagg79 tbytes79 tzero79 foff79_0 foff79_1 foff79_2 tsz117 tagg117 tbytes117 tzero117 foff117_0 foff117_1 foff117_2 tsz119 tagg119 tbytes119 tzero119 foff119_0 foff119_1 tsz121 tagg121 tbytes121 tzero121 foff121_0 foff121_1 foff121_2 foff121_3 tsz129 tagg129 tbytes129 tzero129 tzero1_129 tsz130 tagg130 tbytes130 tzero130 tzero1_130 tsz132 tagg132 tbytes132 tzero132 tzero1_132 tsz206 tagg206 tbytes206 tzero206 tzero1_206 mtype206 tsz208 tagg208 tbytes208 tsz217 tagg217 tel217 tbytes217 tzero217 tzero1_217 tsz220 tagg220 tbytes220 tzero220 foff220_0 foff220_1 tsz235 tagg235 tel235 tbytes235 tzero235 tzero1_235 tsz256 tagg256 tbytes256 tzero256 tzero1_256 mtype256 tsz351 tagg351 tbytes351 tzero351 tsz2 tagg2 tbytes2 tint2 tzero2 tzero1_2 tsz291 tagg291 tbytes291 tint291 tzero291 tzero1_291 sized32 places32_0 places32_1 places32_2 places32_3 places32_4 places32_5 places32_6 places32_7 places32_8 places32_9 sized38 places38_0 places38_1 places38_2 sized54 places54_0 places54_1 places54_2 places54_3 places54_4 places54_5 sized79 places79_0 places79_1 places79_2 sized117 places117_0 places117_1 places117_2 sized119 places119_0 places119_1 sized121 places121_0 places121_1 places121_2 places121_3 sized220 places220_0 places220_1
attribute [local simp] V.c V.z Sd.c Tst.c Fx.c Rl.c Fc.c Gr.c wrap1f take_map_len take_map_len1 wrap1 wrap2 wrap3
theorem enters4 : Enters Tryz.prog 4 := enters_mk Tryz.func4 (by kernel_rfl) (by kernel_rfl)
theorem law4_ok (R : List Rl) (F : List Fc) : CC Tryz.prog 4 [.pv (.sl 10 (prules R)), .pv (.sl 6 (pfacts F))] (fun sv => sv = sbool true) := by
  refine cc_of_pw Tryz.func4 rfl enters4 Tryz.ntmps4 (by simp) (pw_of_pws ?_)
  have hf := few_ok R F 12
  cases hq : fewQ R F 12 with
  | false =>
    rw [hq] at hf
    clear hq
    repeat' (first | with_reducible refine pws_seq ?_ | ((with_reducible refine pws_regk fun K' S hK' hS => ?_); simp [argSlots, *]) | ((with_reducible refine Goes.go hK' ?_); clear hK' hS; clear K' S) | ((with_reducible refine GoesS.go hS ?_); clear hK' hS; clear K' S) | ((with_reducible refine pws_true ?_ ?_); (· simp; done)) | with_reducible refine pws_ret ?_ | ((with_reducible refine pwl_callk (c := ?_) (x := ?_) (f := ?_) (svs := ?_) (cs := ?_) (Qr := ?_) true ?_ ?_ ?_ ?_ ?_ ?_ ?_ ?_ ?_); rotate_left 6; (· (simp [argSlots, *]; done)); (· rfl); (· rfl); (· (simp; with_reducible rfl)); (· (simp; with_reducible rfl)); (· first | (simp [bors, bor]; with_reducible rfl) | (simp [bors, bor, *]; with_reducible rfl)); (· rfl); (· ((with_reducible refine head_ok))); (rintro sv hsv hsc; clear hsc; obtain rfl := hsv; refine ⟨(by first | (intro _; rfl) | (intro h; cases h)), ?_⟩; refine pwl_runk fun K' S hK' hS => ?_; simp [argSlots, *])) | ((with_reducible refine pwl_callk (c := ?_) (x := ?_) (f := ?_) (svs := ?_) (cs := ?_) (Qr := ?_) true ?_ ?_ ?_ ?_ ?_ ?_ ?_ ?_ ?_); rotate_left 6; (· (simp [argSlots, *]; done)); (· rfl); (· rfl); (· (simp; with_reducible rfl)); (· (simp; with_reducible rfl)); (· first | (simp [bors, bor]; with_reducible rfl) | (simp [bors, bor, *]; with_reducible rfl)); (· rfl); (· ((with_reducible refine hf))); (rintro sv hsv hsc; clear hsc; obtain rfl := hsv; refine ⟨(by first | (intro _; rfl) | (intro h; cases h)), ?_⟩; refine pwl_runk fun K' S hK' hS => ?_; simp [argSlots, *])) | fail)
    all_goals (refine finC_ret (vs := ?_) [] (by first | exact .inr rfl | exact .inl rfl) rfl ?_ ?_ ?_; rotate_left; (· simp [Tryz.results4, resL, resOf]; rfl); (· first | rfl | (simp [wrapRes, cv, SV.const, constL]; done)); (· first | (simp [wrapRes, cv, *]; done) | (simp [wrapRes, cv, *]; grind) | (simp [wrapRes, cv, *]; omega)))
  | true =>
    rw [hq] at hf
    obtain ⟨hR, hF, hl⟩ := fewQ_ok hq
    clear hq
    have hvi := dViolations_ok R F hR (by omega) (by omega)
    have hml := fun s (h : s ∈ violL R F) => min_len h
    have hmc := fun s (h : s ∈ violL R F) => min_cons h
    have hmr := fun s (h : s ∈ violL R F) k hk => min_rest (k := k) h hk
    have hls : LSorted (violL R F) := (violL_ok R F).1
    have hcc := fun s => consistent_ok R F s hR (by omega) (by omega)
    generalize violL R F = v at *
    clear hR hF hl
    repeat' (first | with_reducible refine pws_seq ?_ | with_reducible refine pws_skip ?_ | with_reducible refine pws_block ?_ | ((with_reducible refine pws_regk fun K' S hK' hS => ?_); simp [argSlots, *]) | ((with_reducible refine Goes.go hK' ?_); clear hK' hS; clear K' S) | ((with_reducible refine GoesS.go hS ?_); clear hK' hS; clear K' S) | ((with_reducible refine pws_false ?_ ?_); (· simp; done)) | ((with_reducible refine pwl_callk (c := ?_) (x := ?_) (f := ?_) (svs := ?_) (cs := ?_) (Qr := ?_) true ?_ ?_ ?_ ?_ ?_ ?_ ?_ ?_ ?_); rotate_left 6; (· (simp [argSlots, *]; done)); (· rfl); (· rfl); (· (simp; with_reducible rfl)); (· (simp; with_reducible rfl)); (· first | (simp [bors, bor]; with_reducible rfl) | (simp [bors, bor, *]; with_reducible rfl)); (· rfl); (· ((with_reducible refine head_ok))); (rintro sv hsv hsc; clear hsc; obtain rfl := hsv; refine ⟨(by first | (intro _; rfl) | (intro h; cases h)), ?_⟩; refine pwl_runk fun K' S hK' hS => ?_; simp [argSlots, *])) | ((with_reducible refine pwl_callk (c := ?_) (x := ?_) (f := ?_) (svs := ?_) (cs := ?_) (Qr := ?_) true ?_ ?_ ?_ ?_ ?_ ?_ ?_ ?_ ?_); rotate_left 6; (· (simp [argSlots, *]; done)); (· rfl); (· rfl); (· (simp; with_reducible rfl)); (· (simp; with_reducible rfl)); (· first | (simp [bors, bor]; with_reducible rfl) | (simp [bors, bor, *]; with_reducible rfl)); (· rfl); (· ((with_reducible refine hf))); (rintro sv hsv hsc; clear hsc; obtain rfl := hsv; refine ⟨(by first | (intro _; rfl) | (intro h; cases h)), ?_⟩; refine pwl_runk fun K' S hK' hS => ?_; simp [argSlots, *])) | ((with_reducible refine pwl_callk (c := ?_) (x := ?_) (f := ?_) (svs := ?_) (cs := ?_) (Qr := ?_) false ?_ ?_ ?_ ?_ ?_ ?_ ?_ ?_ ?_); rotate_left 6; (· (simp [argSlots, *]; done)); (· rfl); (· rfl); (· (simp; with_reducible rfl)); (· (simp; with_reducible rfl)); (· first | (simp [bors, bor]; with_reducible rfl) | (simp [bors, bor, *]; with_reducible rfl)); (· rfl); (· ((with_reducible refine hvi))); (rintro sv hsv hsc; clear hsc; obtain rfl := hsv; refine ⟨(by first | (intro _; rfl) | (intro h; cases h)), ?_⟩; refine pwl_runk fun K' S hK' hS => ?_; simp [argSlots, *])) | fail)
    refine pws_len (t := 6) (es := 1) (xs := psets v) rfl fun hx => ?_
    simp [maxLen] at hx
    have hvl : v.length ≤ 9223372036854775807 := hx
    refine pws_loop (α := { k : Nat // k ≤ v.length }) (fun k => { n := 105, nx := 0, s := [(8, sint k.1), (7, sint 0), (6, .pv (.sl 1 (psets v))), (5, sbool true), (0, .pv (.sl 10 (prules R))), (1, .pv (.sl 6 (pfacts F)))], h := [], d := [] }) (fun k => v.length - k.1) (fun _ => True) ⟨0, by simp⟩ trivial (ent_sub rfl rfl rfl (by simp [SubL, *]) (by simp [SubL, *]) (by simp) (by simp) (by simp [slotsBelow, SV.lo, belowL]) (by simp [heapBelow, ABlk.lo, SV.lo, belowL, slotsBelow])) ?_
    rintro ⟨k, hk⟩ _ K hK
    by_cases h1 : k < v.length
    · have hw := wrap64_id (n := (k : Int) + 1) (by omega)
      have hm := List.getElem_mem h1
      obtain ⟨hl1, hl3⟩ := hml _ hm
      have hc0 := hcc v[k]
      rw [hmc _ hm] at hc0
      have hcr := fun j hj => hmr _ hm j hj
      clear hml hmc hmr hm
      have hi1 : ((v[k].length : Int) < 1) = False := eq_false (by omega)
      have hi3 : ((3 : Int) < v[k].length) = False := eq_false (by omega)
      rcases Nat.eq_zero_or_pos k with hk0 | hk0
      · subst hk0
        clear hls hvi hf
        repeat' (first | with_reducible refine pws_seq ?_ | with_reducible refine pws_skip ?_ | with_reducible refine pws_block ?_ | ((with_reducible refine pws_regk fun K' S hK' hS => ?_); simp [argSlots, *]) | ((with_reducible refine Goes.go hK' ?_); clear hK' hS; clear K' S) | ((with_reducible refine pws_true ?_ ?_); (· simp; done)) | ((with_reducible refine pws_false ?_ ?_); (· simp; done)) | ((with_reducible refine pws_drawk [21, 37] [0, 1, 2, 3, 4, 5, 6, 7, 8, 9, 10, 11, 12, 13, 14, 15, 16, 17, 18, 19, 20, 21, 22, 23, 24, 25, 26, 27, 28, 29, 30, 31, 32, 33, 34, 35, 36, 37, 38, 39, 40] [] ?_ fun K' S hK' hS => ?_); (· decide +kernel); simp [argSlots, *]) | ((with_reducible refine GoesD.go hS ?_); clear hK' hS; clear K' S) | ((with_reducible refine pwd_callk (eff := [21, 37]) (i := 21) (c := [20, 19, 18, 17, 16, 15, 14, 13, 12, 11, 10, 9, 8, 7, 6, 5, 4, 3, 2, 1, 0]) (c' := []) (o := ?_) (cl := ?_) (x := ?_) (f := ?_) (svs := ?_) (cs := ?_) (Qr := ?_) false ?_ ?_ ?_ ?_ ?_ ?_ ?_ ?_ ?_ ?_ ?_ ?_ ?_); rotate_left 7; (· rfl); (· rfl); (· (simp [argSlots, *]; done)); (· (simp [argSlots, *]; done)); (· decide +kernel); (· rfl); (· rfl); (· (simp; with_reducible rfl)); (· (simp; with_reducible rfl)); (· first | (simp [bors, bor]; with_reducible rfl) | (simp [bors, bor, *]; with_reducible rfl)); (· rfl); (· ((with_reducible refine hc0))); (rintro sv hsv hsc; clear hsc; obtain rfl := hsv; refine ⟨(by first | (intro _; rfl) | (intro h; cases h)), ?_⟩; refine pwd_runk fun K' S hK' hS => ?_; simp [argSlots, *])) | ((with_reducible refine pwd_off (eff := [21, 37]) (i := 37) (c := [36, 35, 34, 33, 32, 31, 30, 29, 28, 27, 26, 25, 24, 23, 22]) (c' := []) (o := ?_) ?_ ?_ ?_ ?_ ?_ ?_ ?_); rotate_left 1; (· rfl); (· rfl); (· (simp [argSlots, *]; done)); (· (simp [argSlots, *]; done)); (· rfl); (· decide +kernel); refine pwd_runk fun K' S hK' hS => ?_; simp [argSlots, *]) | fail)
        refine pws_loop (α := { j : Nat // j ≤ v[0].length }) (fun j => { n := 105, nx := 0, s := [(9, sint j.1), (8, sint 0), (7, sint 0), (6, .pv (.sl 1 (psets v))), (5, sbool true), (0, .pv (.sl 10 (prules R))), (1, .pv (.sl 6 (pfacts F)))], h := [], d := [] }) (fun j => v[0].length - j.1) (fun _ => True) ⟨0, by simp⟩ trivial (ent_sub rfl rfl rfl (by simp [SubL, *]) (by simp [SubL, *]) (by simp) (by simp) (by simp [slotsBelow, SV.lo, belowL]) (by simp [heapBelow, ABlk.lo, SV.lo, belowL, slotsBelow])) ?_
        rintro ⟨j, hj⟩ _ K2 hK2
        by_cases h2 : j < v[0].length
        · have hwj := wrap64_id (n := (j : Int) + 1) (by omega)
          have hcj := hcc (v[0].take j ++ v[0].drop (j + 1))
          rw [hcr j h2] at hcj
          have hj0 : (0 : Int) ≤ (j : Int) + 1 := by omega
          have hjt : ((j : Int) + 1).toNat = j + 1 := by omega
          have hj1 : j + 1 ≤ v[0].length := h2
          have htk : List.take (v[0].length - (j + 1)) (List.drop (j + 1) (ints v[0])) = List.drop (j + 1) (ints v[0]) := List.take_of_length_le (by simp)
          have hmn : min j v[0].length = j := by omega
          have hb1 : j * 8 ≤ 140737488355328 := by omega
          have hb2 : (j + (v[0].length - (j + 1))) * 8 ≤ 140737488355328 := by omega
          clear hK hcr hcc hc0
          obtain ⟨s, hs⟩ : ∃ s, s = v[0].take j ++ v[0].drop (j + 1) := ⟨_, rfl⟩
          rw [← hs] at hcj
          have hsl : s.length = j + (v[0].length - (j + 1)) := by subst hs; simp; omega
          have hsi : ints s = List.take j (ints v[0]) ++ List.drop (j + 1) (ints v[0]) := by subst hs; simp
          have htt : List.take j (List.take j (ints v[0])) = List.take j (ints v[0]) := by rw [List.take_take, Nat.min_self]
          clear hs
          repeat' (first | with_reducible refine pws_seq ?_ | with_reducible refine pws_skip ?_ | with_reducible refine pws_block ?_ | ((with_reducible refine pws_regk fun K' S hK' hS => ?_); simp [argSlots, *]) | ((with_reducible refine Goes.go hK' ?_); clear hK' hS; clear K' S) | ((with_reducible refine GoesS.go hS ?_); clear hK' hS; clear K' S) | ((with_reducible refine pws_true ?_ ?_); (· simp; done)) | ((with_reducible refine pws_draws [0, 6, 7, 14, 15] [[1, 2, 3, 4, 5, 8, 9, 10, 11, 12, 13, 0, 6, 7, 14, 15, 16], [1, 2, 3, 4, 5, 8, 9, 10, 11, 12, 13, 0, 6, 14, 7, 15, 16], [1, 2, 3, 4, 5, 8, 9, 10, 11, 12, 13, 0, 14, 6, 7, 15, 16], [1, 2, 3, 4, 5, 8, 9, 10, 11, 12, 13, 6, 0, 7, 14, 15, 16], [1, 2, 3, 4, 5, 8, 9, 10, 11, 12, 13, 6, 0, 14, 7, 15, 16], [1, 2, 3, 4, 5, 8, 9, 10, 11, 12, 13, 6, 14, 0, 7, 15, 16], [1, 2, 3, 4, 5, 8, 9, 10, 11, 12, 13, 14, 0, 6, 7, 15, 16], [1, 2, 3, 4, 5, 8, 9, 10, 11, 12, 13, 14, 6, 0, 7, 15, 16]] [] [1, 2, 3, 4, 5, 8, 9, 10, 11, 12, 13, 0, 6, 7, 14, 15, 16] ?_ ?_ ?_ ?_ (fun ord hord => ?_)); rotate_right; (simp only [List.mem_cons, List.mem_nil_iff, or_false] at hord; rcases hord with rfl | rfl | rfl | rfl | rfl | rfl | rfl | rfl); all_goals (first | (with_reducible refine pwd_runk fun K' S hK' hS => ?_; simp [argSlots, *]) | (simp; done) | (decide +kernel))) | ((with_reducible refine GoesD.go hS ?_); clear hK' hS; clear K' S) | ((with_reducible refine pwd_step2 (eff := [0, 6, 7, 14, 15]) (i := 0) (c := [13, 12, 11, 10, 9, 8, 5, 4, 3, 2, 1]) (c' := [13, 12, 11, 10, 9, 8, 5, 4, 3, 2, 1]) (o := ?_) (st' := ?_) ?_ ?_ ?_ ?_ ?_ ?_ ?_); rotate_left 2; (· rfl); (· rfl); (· (simp [argSlots, *]; done)); (· (simp [argSlots, *]; done)); (· decide +kernel); (· (simp [argSlots, *]; with_reducible rfl)); refine pwd_runk fun K' S hK' hS => ?_; simp [argSlots, *]) | ((with_reducible refine pwd_step2 (eff := [0, 6, 7, 14, 15]) (i := 6) (c := [13, 12, 11, 10, 9, 8, 5, 4, 3, 2, 1]) (c' := [13, 12, 11, 10, 9, 8]) (o := ?_) (st' := ?_) ?_ ?_ ?_ ?_ ?_ ?_ ?_); rotate_left 2; (· rfl); (· rfl); (· (simp [argSlots, *]; done)); (· (simp [argSlots, *]; done)); (· decide +kernel); (· (simp [argSlots, *]; with_reducible rfl)); refine pwd_runk fun K' S hK' hS => ?_; simp [argSlots, *]) | ((with_reducible refine pwd_step2 (eff := [0, 6, 7, 14, 15]) (i := 7) (c := [13, 12, 11, 10, 9, 8]) (c' := [13, 12, 11, 10, 9, 8]) (o := ?_) (st' := ?_) ?_ ?_ ?_ ?_ ?_ ?_ ?_); rotate_left 2; (· rfl); (· rfl); (· (simp [argSlots, *]; done)); (· (simp [argSlots, *]; done)); (· decide +kernel); (· (simp [argSlots, *]; with_reducible rfl)); refine pwd_runk fun K' S hK' hS => ?_; simp [argSlots, *]) | ((with_reducible refine pwd_step2 (eff := [0, 6, 7, 14, 15]) (i := 14) (c := [13, 12, 11, 10, 9, 8]) (c' := []) (o := ?_) (st' := ?_) ?_ ?_ ?_ ?_ ?_ ?_ ?_); rotate_left 2; (· rfl); (· rfl); (· (simp [argSlots, *]; done)); (· (simp [argSlots, *]; done)); (· decide +kernel); (· (simp [argSlots, *]; with_reducible rfl)); refine pwd_runk fun K' S hK' hS => ?_; simp [argSlots, *]) | ((with_reducible refine pwd_step2 (eff := [0, 6, 7, 14, 15]) (i := 15) (c := []) (c' := []) (o := ?_) (st' := ?_) ?_ ?_ ?_ ?_ ?_ ?_ ?_); rotate_left 2; (· rfl); (· rfl); (· (simp [argSlots, *]; done)); (· (simp [argSlots, *]; done)); (· decide +kernel); (· (simp [argSlots, *]; with_reducible rfl)); refine pwd_runk fun K' S hK' hS => ?_; simp [argSlots, *]) | ((with_reducible refine pwd_step2 (eff := [0, 6, 7, 14, 15]) (i := 7) (c := []) (c' := []) (o := ?_) (st' := ?_) ?_ ?_ ?_ ?_ ?_ ?_ ?_); rotate_left 2; (· rfl); (· rfl); (· (simp [argSlots, *]; done)); (· (simp [argSlots, *]; done)); (· decide +kernel); (· (simp [argSlots, *]; with_reducible rfl)); refine pwd_runk fun K' S hK' hS => ?_; simp [argSlots, *]) | ((with_reducible refine pwd_step2 (eff := [0, 6, 7, 14, 15]) (i := 14) (c := [13, 12, 11, 10, 9, 8, 5, 4, 3, 2, 1]) (c' := [5, 4, 3, 2, 1]) (o := ?_) (st' := ?_) ?_ ?_ ?_ ?_ ?_ ?_ ?_); rotate_left 2; (· rfl); (· rfl); (· (simp [argSlots, *]; done)); (· (simp [argSlots, *]; done)); (· decide +kernel); (· (simp [argSlots, *]; with_reducible rfl)); refine pwd_runk fun K' S hK' hS => ?_; simp [argSlots, *]) | ((with_reducible refine pwd_step2 (eff := [0, 6, 7, 14, 15]) (i := 6) (c := [5, 4, 3, 2, 1]) (c' := []) (o := ?_) (st' := ?_) ?_ ?_ ?_ ?_ ?_ ?_ ?_); rotate_left 2; (· rfl); (· rfl); (· (simp [argSlots, *]; done)); (· (simp [argSlots, *]; done)); (· decide +kernel); (· (simp [argSlots, *]; with_reducible rfl)); refine pwd_runk fun K' S hK' hS => ?_; simp [argSlots, *]) | ((with_reducible refine pwd_step2 (eff := [0, 6, 7, 14, 15]) (i := 0) (c := [13, 12, 11, 10, 9, 8]) (c' := [13, 12, 11, 10, 9, 8]) (o := ?_) (st' := ?_) ?_ ?_ ?_ ?_ ?_ ?_ ?_); rotate_left 2; (· rfl); (· rfl); (· (simp [argSlots, *]; done)); (· (simp [argSlots, *]; done)); (· decide +kernel); (· (simp [argSlots, *]; with_reducible rfl)); refine pwd_runk fun K' S hK' hS => ?_; simp [argSlots, *]) | ((with_reducible refine pwd_step2 (eff := [0, 6, 7, 14, 15]) (i := 0) (c := []) (c' := []) (o := ?_) (st' := ?_) ?_ ?_ ?_ ?_ ?_ ?_ ?_); rotate_left 2; (· rfl); (· rfl); (· (simp [argSlots, *]; done)); (· (simp [argSlots, *]; done)); (· decide +kernel); (· (simp [argSlots, *]; with_reducible rfl)); refine pwd_runk fun K' S hK' hS => ?_; simp [argSlots, *]) | ((with_reducible refine pwd_step2 (eff := [0, 6, 7, 14, 15]) (i := 0) (c := [5, 4, 3, 2, 1]) (c' := [5, 4, 3, 2, 1]) (o := ?_) (st' := ?_) ?_ ?_ ?_ ?_ ?_ ?_ ?_); rotate_left 2; (· rfl); (· rfl); (· (simp [argSlots, *]; done)); (· (simp [argSlots, *]; done)); (· decide +kernel); (· (simp [argSlots, *]; with_reducible rfl)); refine pwd_runk fun K' S hK' hS => ?_; simp [argSlots, *]) | fail)
          all_goals (refine PWl.ent (st' := { n := 105, nx := 1, s := [(97, .loc 1 0 2 0 s.length), (96, .pv (.sl 6 (pfacts F))), (95, .pv (.sl 10 (prules R))), (10, .loc 1 0 2 0 s.length), (9, sint j), (8, sint 0), (7, sint 0), (6, .pv (.sl 1 (psets v))), (5, sbool true), (0, .pv (.sl 10 (prules R))), (1, .pv (.sl 6 (pfacts F)))], h := [(0, .arr 3 1 2 false (ints s))], d := [] }) (ent_sub rfl rfl rfl (by simp [SubL, *]) (by simp [SubL, *]) (by simp) (by simp) (by simp [slotsBelow, SV.lo, belowL]) (by simp [heapBelow, ABlk.lo, SV.lo, belowL, slotsBelow])) ?_; clear hsl hsi htk hmn; refine ent_frzs' [.loc 1 0 2 0 s.length] ?_; refine pwl_runk fun K' S hK' hS => ?_; simp [*])
          repeat' (first | with_reducible refine pws_skip ?_ | ((with_reducible refine pws_regk fun K' S hK' hS => ?_); simp [argSlots, *]) | ((with_reducible refine Goes.go hK' ?_); clear hK' hS; clear K' S) | ((with_reducible refine GoesS.go hS ?_); clear hK' hS; clear K' S) | ((with_reducible refine pws_false ?_ ?_); (· simp; done)) | with_reducible refine blk_normal ?_ | with_reducible refine thenQ_normal ?_ | with_reducible refine pws_nil ?_ | ((with_reducible refine pwl_callk (c := ?_) (x := ?_) (f := ?_) (svs := ?_) (cs := ?_) (Qr := ?_) false ?_ ?_ ?_ ?_ ?_ ?_ ?_ ?_ ?_); rotate_left 6; (· (simp [argSlots, *]; done)); (· rfl); (· rfl); (· (simp; with_reducible rfl)); (· (simp; with_reducible rfl)); (· first | (simp [bors, bor]; with_reducible rfl) | (simp [bors, bor, *]; with_reducible rfl)); (· rfl); (· ((with_reducible refine hcj))); (rintro sv hsv hsc; clear hsc; obtain rfl := hsv; refine ⟨(by first | (intro _; rfl) | (intro h; cases h)), ?_⟩; refine pwl_runk fun K' S hK' hS => ?_; simp [argSlots, *])) | fail)
          all_goals (refine hK2 _ ⟨j + 1, by omega⟩ (ent_sub rfl rfl rfl (by simp [SubL, *]) (by simp [SubL, *]) (by simp) (by simp) (by simp [slotsBelow, SV.lo, belowL]) (by simp [heapBelow, ABlk.lo, SV.lo, belowL, slotsBelow])) trivial (by simp; omega))
        · obtain rfl : j = v[0].length := by omega
          clear hK2 hcr hcc hc0
          repeat' (first | with_reducible refine pws_seq ?_ | ((with_reducible refine pws_regk fun K' S hK' hS => ?_); simp [argSlots, *]) | ((with_reducible refine Goes.go hK' ?_); clear hK' hS; clear K' S) | ((with_reducible refine pws_false ?_ ?_); (· simp; done)) | with_reducible refine blk_normal ?_ | with_reducible refine blk_same ?_ | with_reducible refine thenQ_exit ?_ | with_reducible refine thenQ_normal ?_ | with_reducible refine pws_nil ?_ | with_reducible refine pws_exit ?_)
          refine hK _ ⟨0 + 1, by omega⟩ (ent_sub rfl rfl rfl (by simp [SubL, *]) (by simp [SubL, *]) (by simp) (by simp) (by simp [slotsBelow, SV.lo, belowL]) (by simp [heapBelow, ABlk.lo, SV.lo, belowL, slotsBelow])) trivial (by simp; omega)
      · obtain ⟨q, hqk, hqv, hwk⟩ : ∃ q : Nat, q < k ∧ q < v.length ∧ IntKind.i64.wrap ((k : Int) - 1) = (q : Int) := ⟨k - 1, by omega, by omega, by rw [wrap64_id (by omega)]; omega⟩
        have hlt : lexLt v[q] v[k] = true := List.pairwise_iff_getElem.1 hls q k hqv h1 hqk
        have hle := less_ok v[q] v[k]
        rw [hlt] at hle
        have hq0 : ¬ (q : Int) < 0 := by omega
        clear hls hvi hf hqk
        repeat' (first | with_reducible refine pws_seq ?_ | with_reducible refine pws_skip ?_ | with_reducible refine pws_block ?_ | ((with_reducible refine pws_regk fun K' S hK' hS => ?_); simp [argSlots, *]) | ((with_reducible refine Goes.go hK' ?_); clear hK' hS; clear K' S) | ((with_reducible refine pws_true ?_ ?_); (· simp; done)) | ((with_reducible refine pws_false ?_ ?_); (· simp; done)) | ((with_reducible refine pws_drawk [21, 37] [0, 1, 2, 3, 4, 5, 6, 7, 8, 9, 10, 11, 12, 13, 14, 15, 16, 17, 18, 19, 20, 21, 22, 23, 24, 25, 26, 27, 28, 29, 30, 31, 32, 33, 34, 35, 36, 37, 38, 39, 40] [] ?_ fun K' S hK' hS => ?_); (· decide +kernel); simp [argSlots, *]) | ((with_reducible refine GoesD.go hS ?_); clear hK' hS; clear K' S) | ((with_reducible refine pwd_callk (eff := [21, 37]) (i := 21) (c := [20, 19, 18, 17, 16, 15, 14, 13, 12, 11, 10, 9, 8, 7, 6, 5, 4, 3, 2, 1, 0]) (c' := []) (o := ?_) (cl := ?_) (x := ?_) (f := ?_) (svs := ?_) (cs := ?_) (Qr := ?_) false ?_ ?_ ?_ ?_ ?_ ?_ ?_ ?_ ?_ ?_ ?_ ?_ ?_); rotate_left 7; (· rfl); (· rfl); (· (simp [argSlots, *]; done)); (· (simp [argSlots, *]; done)); (· decide +kernel); (· rfl); (· rfl); (· (simp; with_reducible rfl)); (· (simp; with_reducible rfl)); (· first | (simp [bors, bor]; with_reducible rfl) | (simp [bors, bor, *]; with_reducible rfl)); (· rfl); (· ((with_reducible refine hc0))); (rintro sv hsv hsc; clear hsc; obtain rfl := hsv; refine ⟨(by first | (intro _; rfl) | (intro h; cases h)), ?_⟩; refine pwd_runk fun K' S hK' hS => ?_; simp [argSlots, *])) | ((with_reducible refine pwd_callk (eff := [21, 37]) (i := 37) (c := [36, 35, 34, 33, 32, 31, 30, 29, 28, 27, 26, 25, 24, 23, 22]) (c' := []) (o := ?_) (cl := ?_) (x := ?_) (f := ?_) (svs := ?_) (cs := ?_) (Qr := ?_) false ?_ ?_ ?_ ?_ ?_ ?_ ?_ ?_ ?_ ?_ ?_ ?_ ?_); rotate_left 7; (· rfl); (· rfl); (· (simp [argSlots, *]; done)); (· (simp [argSlots, *]; done)); (· decide +kernel); (· rfl); (· rfl); (· (simp; with_reducible rfl)); (· (simp; with_reducible rfl)); (· first | (simp [bors, bor]; with_reducible rfl) | (simp [bors, bor, *]; with_reducible rfl)); (· rfl); (· ((with_reducible refine hle))); (rintro sv hsv hsc; clear hsc; obtain rfl := hsv; refine ⟨(by first | (intro _; rfl) | (intro h; cases h)), ?_⟩; refine pwd_runk fun K' S hK' hS => ?_; simp [argSlots, *])) | fail)
        refine pws_loop (α := { j : Nat // j ≤ v[k].length }) (fun j => { n := 105, nx := 0, s := [(9, sint j.1), (8, sint k), (7, sint 0), (6, .pv (.sl 1 (psets v))), (5, sbool true), (0, .pv (.sl 10 (prules R))), (1, .pv (.sl 6 (pfacts F)))], h := [], d := [] }) (fun j => v[k].length - j.1) (fun _ => True) ⟨0, by simp⟩ trivial (ent_sub rfl rfl rfl (by simp [SubL, *]) (by simp [SubL, *]) (by simp) (by simp) (by simp [slotsBelow, SV.lo, belowL]) (by simp [heapBelow, ABlk.lo, SV.lo, belowL, slotsBelow])) ?_
        rintro ⟨j, hj⟩ _ K2 hK2
        by_cases h2 : j < v[k].length
        · have hwj := wrap64_id (n := (j : Int) + 1) (by omega)
          have hcj := hcc (v[k].take j ++ v[k].drop (j + 1))
          rw [hcr j h2] at hcj
          have hj0 : (0 : Int) ≤ (j : Int) + 1 := by omega
          have hjt : ((j : Int) + 1).toNat = j + 1 := by omega
          have hj1 : j + 1 ≤ v[k].length := h2
          have htk : List.take (v[k].length - (j + 1)) (List.drop (j + 1) (ints v[k])) = List.drop (j + 1) (ints v[k]) := List.take_of_length_le (by simp)
          have hmn : min j v[k].length = j := by omega
          have hb1 : j * 8 ≤ 140737488355328 := by omega
          have hb2 : (j + (v[k].length - (j + 1))) * 8 ≤ 140737488355328 := by omega
          clear hK hcr hcc hc0
          obtain ⟨s, hs⟩ : ∃ s, s = v[k].take j ++ v[k].drop (j + 1) := ⟨_, rfl⟩
          rw [← hs] at hcj
          have hsl : s.length = j + (v[k].length - (j + 1)) := by subst hs; simp; omega
          have hsi : ints s = List.take j (ints v[k]) ++ List.drop (j + 1) (ints v[k]) := by subst hs; simp
          have htt : List.take j (List.take j (ints v[k])) = List.take j (ints v[k]) := by rw [List.take_take, Nat.min_self]
          clear hs
          repeat' (first | with_reducible refine pws_seq ?_ | with_reducible refine pws_skip ?_ | with_reducible refine pws_block ?_ | ((with_reducible refine pws_regk fun K' S hK' hS => ?_); simp [argSlots, *]) | ((with_reducible refine Goes.go hK' ?_); clear hK' hS; clear K' S) | ((with_reducible refine GoesS.go hS ?_); clear hK' hS; clear K' S) | ((with_reducible refine pws_true ?_ ?_); (· simp; done)) | ((with_reducible refine pws_draws [0, 6, 7, 14, 15] [[1, 2, 3, 4, 5, 8, 9, 10, 11, 12, 13, 0, 6, 7, 14, 15, 16], [1, 2, 3, 4, 5, 8, 9, 10, 11, 12, 13, 0, 6, 14, 7, 15, 16], [1, 2, 3, 4, 5, 8, 9, 10, 11, 12, 13, 0, 14, 6, 7, 15, 16], [1, 2, 3, 4, 5, 8, 9, 10, 11, 12, 13, 6, 0, 7, 14, 15, 16], [1, 2, 3, 4, 5, 8, 9, 10, 11, 12, 13, 6, 0, 14, 7, 15, 16], [1, 2, 3, 4, 5, 8, 9, 10, 11, 12, 13, 6, 14, 0, 7, 15, 16], [1, 2, 3, 4, 5, 8, 9, 10, 11, 12, 13, 14, 0, 6, 7, 15, 16], [1, 2, 3, 4, 5, 8, 9, 10, 11, 12, 13, 14, 6, 0, 7, 15, 16]] [] [1, 2, 3, 4, 5, 8, 9, 10, 11, 12, 13, 0, 6, 7, 14, 15, 16] ?_ ?_ ?_ ?_ (fun ord hord => ?_)); rotate_right; (simp only [List.mem_cons, List.mem_nil_iff, or_false] at hord; rcases hord with rfl | rfl | rfl | rfl | rfl | rfl | rfl | rfl); all_goals (first | (with_reducible refine pwd_runk fun K' S hK' hS => ?_; simp [argSlots, *]) | (simp; done) | (decide +kernel))) | ((with_reducible refine GoesD.go hS ?_); clear hK' hS; clear K' S) | ((with_reducible refine pwd_step2 (eff := [0, 6, 7, 14, 15]) (i := 0) (c := [13, 12, 11, 10, 9, 8, 5, 4, 3, 2, 1]) (c' := [13, 12, 11, 10, 9, 8, 5, 4, 3, 2, 1]) (o := ?_) (st' := ?_) ?_ ?_ ?_ ?_ ?_ ?_ ?_); rotate_left 2; (· rfl); (· rfl); (· (simp [argSlots, *]; done)); (· (simp [argSlots, *]; done)); (· decide +kernel); (· (simp [argSlots, *]; with_reducible rfl)); refine pwd_runk fun K' S hK' hS => ?_; simp [argSlots, *]) | ((with_reducible refine pwd_step2 (eff := [0, 6, 7, 14, 15]) (i := 6) (c := [13, 12, 11, 10, 9, 8, 5, 4, 3, 2, 1]) (c' := [13, 12, 11, 10, 9, 8]) (o := ?_) (st' := ?_) ?_ ?_ ?_ ?_ ?_ ?_ ?_); rotate_left 2; (· rfl); (· rfl); (· (simp [argSlots, *]; done)); (· (simp [argSlots, *]; done)); (· decide +kernel); (· (simp [argSlots, *]; with_reducible rfl)); refine pwd_runk fun K' S hK' hS => ?_; simp [argSlots, *]) | ((with_reducible refine pwd_step2 (eff := [0, 6, 7, 14, 15]) (i := 7) (c := [13, 12, 11, 10, 9, 8]) (c' := [13, 12, 11, 10, 9, 8]) (o := ?_) (st' := ?_) ?_ ?_ ?_ ?_ ?_ ?_ ?_); rotate_left 2; (· rfl); (· rfl); (· (simp [argSlots, *]; done)); (· (simp [argSlots, *]; done)); (· decide +kernel); (· (simp [argSlots, *]; with_reducible rfl)); refine pwd_runk fun K' S hK' hS => ?_; simp [argSlots, *]) | ((with_reducible refine pwd_step2 (eff := [0, 6, 7, 14, 15]) (i := 14) (c := [13, 12, 11, 10, 9, 8]) (c' := []) (o := ?_) (st' := ?_) ?_ ?_ ?_ ?_ ?_ ?_ ?_); rotate_left 2; (· rfl); (· rfl); (· (simp [argSlots, *]; done)); (· (simp [argSlots, *]; done)); (· decide +kernel); (· (simp [argSlots, *]; with_reducible rfl)); refine pwd_runk fun K' S hK' hS => ?_; simp [argSlots, *]) | ((with_reducible refine pwd_step2 (eff := [0, 6, 7, 14, 15]) (i := 15) (c := []) (c' := []) (o := ?_) (st' := ?_) ?_ ?_ ?_ ?_ ?_ ?_ ?_); rotate_left 2; (· rfl); (· rfl); (· (simp [argSlots, *]; done)); (· (simp [argSlots, *]; done)); (· decide +kernel); (· (simp [argSlots, *]; with_reducible rfl)); refine pwd_runk fun K' S hK' hS => ?_; simp [argSlots, *]) | ((with_reducible refine pwd_step2 (eff := [0, 6, 7, 14, 15]) (i := 7) (c := []) (c' := []) (o := ?_) (st' := ?_) ?_ ?_ ?_ ?_ ?_ ?_ ?_); rotate_left 2; (· rfl); (· rfl); (· (simp [argSlots, *]; done)); (· (simp [argSlots, *]; done)); (· decide +kernel); (· (simp [argSlots, *]; with_reducible rfl)); refine pwd_runk fun K' S hK' hS => ?_; simp [argSlots, *]) | ((with_reducible refine pwd_step2 (eff := [0, 6, 7, 14, 15]) (i := 14) (c := [13, 12, 11, 10, 9, 8, 5, 4, 3, 2, 1]) (c' := [5, 4, 3, 2, 1]) (o := ?_) (st' := ?_) ?_ ?_ ?_ ?_ ?_ ?_ ?_); rotate_left 2; (· rfl); (· rfl); (· (simp [argSlots, *]; done)); (· (simp [argSlots, *]; done)); (· decide +kernel); (· (simp [argSlots, *]; with_reducible rfl)); refine pwd_runk fun K' S hK' hS => ?_; simp [argSlots, *]) | ((with_reducible refine pwd_step2 (eff := [0, 6, 7, 14, 15]) (i := 6) (c := [5, 4, 3, 2, 1]) (c' := []) (o := ?_) (st' := ?_) ?_ ?_ ?_ ?_ ?_ ?_ ?_); rotate_left 2; (· rfl); (· rfl); (· (simp [argSlots, *]; done)); (· (simp [argSlots, *]; done)); (· decide +kernel); (· (simp [argSlots, *]; with_reducible rfl)); refine pwd_runk fun K' S hK' hS => ?_; simp [argSlots, *]) | ((with_reducible refine pwd_step2 (eff := [0, 6, 7, 14, 15]) (i := 0) (c := [13, 12, 11, 10, 9, 8]) (c' := [13, 12, 11, 10, 9, 8]) (o := ?_) (st' := ?_) ?_ ?_ ?_ ?_ ?_ ?_ ?_); rotate_left 2; (· rfl); (· rfl); (· (simp [argSlots, *]; done)); (· (simp [argSlots, *]; done)); (· decide +kernel); (· (simp [argSlots, *]; with_reducible rfl)); refine pwd_runk fun K' S hK' hS => ?_; simp [argSlots, *]) | ((with_reducible refine pwd_step2 (eff := [0, 6, 7, 14, 15]) (i := 0) (c := []) (c' := []) (o := ?_) (st' := ?_) ?_ ?_ ?_ ?_ ?_ ?_ ?_); rotate_left 2; (· rfl); (· rfl); (· (simp [argSlots, *]; done)); (· (simp [argSlots, *]; done)); (· decide +kernel); (· (simp [argSlots, *]; with_reducible rfl)); refine pwd_runk fun K' S hK' hS => ?_; simp [argSlots, *]) | ((with_reducible refine pwd_step2 (eff := [0, 6, 7, 14, 15]) (i := 0) (c := [5, 4, 3, 2, 1]) (c' := [5, 4, 3, 2, 1]) (o := ?_) (st' := ?_) ?_ ?_ ?_ ?_ ?_ ?_ ?_); rotate_left 2; (· rfl); (· rfl); (· (simp [argSlots, *]; done)); (· (simp [argSlots, *]; done)); (· decide +kernel); (· (simp [argSlots, *]; with_reducible rfl)); refine pwd_runk fun K' S hK' hS => ?_; simp [argSlots, *]) | fail)
          all_goals (refine PWl.ent (st' := { n := 105, nx := 1, s := [(97, .loc 1 0 2 0 s.length), (96, .pv (.sl 6 (pfacts F))), (95, .pv (.sl 10 (prules R))), (10, .loc 1 0 2 0 s.length), (9, sint j), (8, sint k), (7, sint 0), (6, .pv (.sl 1 (psets v))), (5, sbool true), (0, .pv (.sl 10 (prules R))), (1, .pv (.sl 6 (pfacts F)))], h := [(0, .arr 3 1 2 false (ints s))], d := [] }) (ent_sub rfl rfl rfl (by simp [SubL, *]) (by simp [SubL, *]) (by simp) (by simp) (by simp [slotsBelow, SV.lo, belowL]) (by simp [heapBelow, ABlk.lo, SV.lo, belowL, slotsBelow])) ?_; clear hsl hsi htk hmn; refine ent_frzs' [.loc 1 0 2 0 s.length] ?_; refine pwl_runk fun K' S hK' hS => ?_; simp [*])
          repeat' (first | with_reducible refine pws_skip ?_ | ((with_reducible refine pws_regk fun K' S hK' hS => ?_); simp [argSlots, *]) | ((with_reducible refine Goes.go hK' ?_); clear hK' hS; clear K' S) | ((with_reducible refine GoesS.go hS ?_); clear hK' hS; clear K' S) | ((with_reducible refine pws_false ?_ ?_); (· simp; done)) | with_reducible refine blk_normal ?_ | with_reducible refine thenQ_normal ?_ | with_reducible refine pws_nil ?_ | ((with_reducible refine pwl_callk (c := ?_) (x := ?_) (f := ?_) (svs := ?_) (cs := ?_) (Qr := ?_) false ?_ ?_ ?_ ?_ ?_ ?_ ?_ ?_ ?_); rotate_left 6; (· (simp [argSlots, *]; done)); (· rfl); (· rfl); (· (simp; with_reducible rfl)); (· (simp; with_reducible rfl)); (· first | (simp [bors, bor]; with_reducible rfl) | (simp [bors, bor, *]; with_reducible rfl)); (· rfl); (· ((with_reducible refine hcj))); (rintro sv hsv hsc; clear hsc; obtain rfl := hsv; refine ⟨(by first | (intro _; rfl) | (intro h; cases h)), ?_⟩; refine pwl_runk fun K' S hK' hS => ?_; simp [argSlots, *])) | fail)
          all_goals (refine hK2 _ ⟨j + 1, by omega⟩ (ent_sub rfl rfl rfl (by simp [SubL, *]) (by simp [SubL, *]) (by simp) (by simp) (by simp [slotsBelow, SV.lo, belowL]) (by simp [heapBelow, ABlk.lo, SV.lo, belowL, slotsBelow])) trivial (by simp; omega))
        · obtain rfl : j = v[k].length := by omega
          clear hK2 hcr hcc hc0
          repeat' (first | with_reducible refine pws_seq ?_ | ((with_reducible refine pws_regk fun K' S hK' hS => ?_); simp [argSlots, *]) | ((with_reducible refine Goes.go hK' ?_); clear hK' hS; clear K' S) | ((with_reducible refine pws_false ?_ ?_); (· simp; done)) | with_reducible refine blk_normal ?_ | with_reducible refine blk_same ?_ | with_reducible refine thenQ_exit ?_ | with_reducible refine thenQ_normal ?_ | with_reducible refine pws_nil ?_ | with_reducible refine pws_exit ?_)
          refine hK _ ⟨k + 1, by omega⟩ (ent_sub rfl rfl rfl (by simp [SubL, *]) (by simp [SubL, *]) (by simp) (by simp) (by simp [slotsBelow, SV.lo, belowL]) (by simp [heapBelow, ABlk.lo, SV.lo, belowL, slotsBelow])) trivial (by simp; omega)
    · obtain rfl : k = v.length := by omega
      clear hK
      repeat' (first | with_reducible refine pws_seq ?_ | ((with_reducible refine pws_regk fun K' S hK' hS => ?_); simp [argSlots, *]) | ((with_reducible refine Goes.go hK' ?_); clear hK' hS; clear K' S) | ((with_reducible refine pws_false ?_ ?_); (· simp; done)) | with_reducible refine pws_ret ?_ | with_reducible refine blk_same ?_ | with_reducible refine thenQ_exit ?_ | with_reducible refine pws_exit ?_)
      all_goals (refine finC_ret (vs := ?_) [] (by first | exact .inr rfl | exact .inl rfl) rfl ?_ ?_ ?_; rotate_left; (· simp [Tryz.results4, resL, resOf]; rfl); (· first | rfl | (simp [wrapRes, cv, SV.const, constL]; done)); (· first | (simp [wrapRes, cv, *]; done) | (simp [wrapRes, cv, *]; grind) | (simp [wrapRes, cv, *]; omega)))
end Go.Proofs.T1
/- The law DenialMinimal holds: for every input that the row lets in, the call returns true and each argument reads as before. Its row lists three package-level tables; the card ties them to the program's text. -/
set_option maxRecDepth 100000
namespace Go.Proofs.YtpnpkigicnmopaaGreatDoor
open Go Go.ChangeShapes Go.WideShapes Go.ChangeAt Go.WideMaps Go.WideElems Go.RowKit Go.Vc Go.Proofs.T1
theorem law4_lifted (os : Os) (started : os.Started) (H : Type) (enc : TypeId × Value → H) :
    ReturnsInHanded {} Tryz.checked os 4 .any (fun w args => (Rows.denialMinimalSpec.pre enc Tryz.prog Tryz.f4 [] false w args ∧ laidMetH Tryz.prog laid3 w) ∧ sizedMet enc Tryz.prog Tryz.f4 (OpenSpec.ofChange Rows.denialMinimalSpec) false w args)
      (Rows.denialMinimalSpec.post enc Tryz.prog Tryz.f4 false true false false) := by
  refine returnsInHanded_of_change_and (C := Tryz.checked) (X := fun w _ => laidMetH Tryz.prog laid3 w) (fun _ _ _ hh h => h.of_heap hh) own started (by kernel_rfl) Tryz.func4
    (ChangeSpec.witness_shaped (enc := enc) (C := Tryz.checked) (os := os) (X := fun w _ => laidMetH Tryz.prog laid3 w) false (World.doorLaid Tryz.prog 400 os) #[.slice none 0 0, .slice none 0 0] 8 rfl (World.shaped_of_RefB (by kernel_rfl) (by kernel_rfl)) (by kernel_rfl) (by kernel_rfl) (by kernel_rfl) (door_met os _)) ?_
  intro W base args ds gs before hval0 hW _ _ _ _
  have hval : ∀ (j : Nat) t v, Tryz.f4.params[j]? = some t → args[j]? = some v → Value.okWide Tryz.prog W .any base t v := hval0
  have hW' := hW
  obtain ⟨p, q, hA0, _, _, _, _⟩ := hW
  have hA : DataW.TrodAll enc Tryz.prog W 0 (fun _ => true) true Tryz.f4.params.toList args.toList ds p := hA0
  rw [Tryz.params4] at hA hval
  obtain ⟨v0, vs0, d0, ds0, p0, q0, e0, rfl, rfl, h0, hA0⟩ := trodAll_cons hA
  obtain ⟨v1, vs1, d1, ds1, p1, q1, e1, rfl, rfl, h1, hA1⟩ := trodAll_cons hA0
  subst e1
  obtain ⟨e2, rfl, rfl⟩ := trodAll_nil hA1
  subst e2
  obtain rfl : args = #[v0, v1] := by rw [← Array.toArray_toList (xs := args), e0]
  obtain ⟨R0, r0⟩ := arg_rules (hval 0 22 v0 rfl rfl) h0
  obtain ⟨F1, r1⟩ := arg_facts (hval 1 23 v1 rfl rfl) h1
  refine law_post (svs := [.pv (.sl 10 (prules R0)), .pv (.sl 6 (pfacts F1))]) (law4_ok R0 F1) rfl (fun j sv u hj hu => ?_) hW' rfl rfl (by kernel_rfl) (by rw [Tryz.params4]; kernel_rfl)
  match j with
  | 0 => simp at hj hu; subst hj hu; exact .pv _ _ r0
  | 1 => simp at hj hu; subst hj hu; exact .pv _ _ r1
  | j + 2 => simp at hj
theorem law4_fact9 : (Rows.denialMinimalRow.inPlace == Tryz.prog.inPlace 4) = true := by kernel_rfl
theorem law4_fact10 : (Rows.denialMinimalRow.unfollowed == Tryz.prog.unfollowed 4) = true := by kernel_rfl
theorem law4_fact11 : (Rows.denialMinimalRow.recurses == Tryz.prog.recurses 4) = true := by kernel_rfl
theorem law4_fact12 : (Rows.denialMinimalRow.named == Tryz.prog.varsNamed 4) = true := by kernel_rfl
theorem law4_fact16 : (Rows.denialMinimalRow.loops == (Tryz.f4.params.toList ++ Rows.denialMinimalSpec.plain.varTypes Tryz.prog).any (Tryz.prog.loopsFrom ·)) = true := by kernel_rfl
theorem law4_facts : joinedFacts Tryz.prog 4 Tryz.f4 Rows.denialMinimalSpec Rows.denialMinimalRow = true :=
  joined (by kernel_rfl) (by kernel_rfl) (by kernel_rfl) (by kernel_rfl) (by kernel_rfl) law4_fact9 law4_fact10 law4_fact11 law4_fact12 (by kernel_rfl) (by kernel_rfl) (by kernel_rfl) law4_fact16 (by kernel_rfl) (by kernel_rfl) (by kernel_rfl) (by kernel_rfl) (by kernel_rfl) (by kernel_rfl) (by kernel_rfl) rfl rfl (by kernel_rfl) (by kernel_rfl) (by kernel_rfl) (by kernel_rfl)
theorem law4_named : Tryz.prog.funcNamed "cleanse/cleanselaw25.DenialMinimal" = some 4 := by kernel_rfl
theorem law4_plain : Tryz.f4.isInstance Tryz.prog Rows.denialMinimalRow.origin Rows.denialMinimalRow.targs := of_decide_eq_true (by kernel_rfl)
theorem law4_own : Tryz.f4.isWrapper Tryz.prog Rows.denialMinimalRow.wrapper Rows.denialMinimalRow.mainSum := by
  unfold Func.isWrapper; first | (rw [if_pos (by decide +kernel)]; kernel_rfl) | (rw [if_neg (by decide +kernel)]; exact ⟨rfl, rfl⟩)
theorem law4_goes : false = Rows.denialMinimalRow.goesBy Tryz.prog := by kernel_rfl
theorem law4_text : Rows.denialMinimalRow.wfByText (OpenSpec.ofChange Rows.denialMinimalSpec) = true := by kernel_rfl
theorem law4_said : Rows.DenialMinimalSaid :=
  OpenClaim.holds_of_wide 4 Tryz.f4 rfl rfl rfl rfl rfl rfl rfl ⟨rfl, rfl, rfl, rfl, rfl⟩ rfl rfl rfl rfl rfl law4_named Tryz.func4 law4_facts law4_plain law4_own
    (fun os started H enc _ => law4_lifted os started H enc)
theorem law4_holds : Rows.DenialMinimalCardSaid :=
  Claim7.holds_tied_plain_at .later [] [.data, .data, .data] true (true, "49c22cd40531e0a5935ea59eb1785f2fd0eb702db4aed61b97646984eda5cce0") true
    law4_said (fun _ h => by cases h) law4_text (fun _ h => by cases h) denialMinimal_row_tie rfl ⟨rfl, rfl⟩ tryz_main rfl
    (fun f fn hf hfn => by
      obtain rfl : f = 4 := (Option.some.inj (law4_named.symm.trans hf)).symm
      obtain rfl : fn = Tryz.f4 := (Option.some.inj (Tryz.func4.symm.trans hfn)).symm
      exact ⟨tryz_looks, fun j t ht => by
        rw [Tryz.params4] at ht
        have hm : t ∈ [22, 23] := by simpa using Array.mem_of_getElem? ht
        have hall : ([22, 23].all fun u => !Tryz.prog.wantsStandIn u) = true := by kernel_rfl
        exact (show Tryz.prog.wantsStandIn t = false by simpa using List.all_eq_true.1 hall t hm)⟩)
    law4_goes
end Go.Proofs.YtpnpkigicnmopaaGreatDoor
