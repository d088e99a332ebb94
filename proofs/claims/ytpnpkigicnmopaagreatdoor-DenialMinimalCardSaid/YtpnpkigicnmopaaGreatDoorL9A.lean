import Derived.RangeFuncLeaves
import Derived.RangeFuncNested
import Derived.Maps.AppendAt
import Derived.TacticsIn
import Derived.Laws.CopyRow
import Derived.Deep.OwnRows
/- The law DenialVariants holds: for every input that its row lets in, the call returns true and each argument reads as before. The row lists three package-level tables, which the card ties to the program's text. -/
set_option linter.unusedVariables false
set_option linter.unusedSimpArgs false
set_option linter.unnecessarySimpa false
set_option linter.all false
/- A logic of abstract states over the model's walk: values as trees, own blocks by names. Part A: the states and what relates them to the machine. -/
namespace Go.Vc
open Go.RowKit
/-- A cell's value as data: a plain value, or a slice that nobody writes any more. -/
inductive PV where
  | lit (v : Value)
  | sl (es : Nat) (xs : List (List PV))
def get2 (xs : List (List PV)) (i j : Nat) : Option PV := (xs[i]?).bind (·[j]?)
inductive Rep (I : Nat → Nat → Prop) (w : World) : PV → Value → Prop where
  | lit (v : Value) (h : v.oneCell' = true) : Rep I w (.lit v) v
  | sl (es : Nat) (xs : List (List PV)) (A : Option Addr) (n c : Nat) (u : Nat → Nat → Value)
      (hn : n = xs.length) (hc : n ≤ c) (hmax : c ≤ maxLen)
      (hA : 0 < n → ∃ ad, A = some ad ∧ I ad.block es)
      (hes : ∀ x ∈ xs, x.length = es)
      (hcell : ∀ ad i j p, A = some ad → get2 xs i j = some p → w.cell? (ad.add (i * es + j)) = some (u i j))
      (hrep : ∀ i j p, get2 xs i j = some p → Rep I w p (u i j)) : Rep I w (.sl es xs) (.slice A n c)
theorem block_add (a : Addr) (n : Nat) : (a.add n).block = a.block := by unfold Addr.add; split <;> rfl
theorem get2_lt {xs : List (List PV)} {i j : Nat} {p : PV} (h : get2 xs i j = some p) : i < xs.length := by
  unfold get2 at h
  rcases Nat.lt_or_ge i xs.length with h1 | h1
  · exact h1
  · rw [List.getElem?_eq_none h1] at h; cases h
theorem Rep.mono {I I' : Nat → Nat → Prop} {w w' : World} (hw : ∀ b κ, I b κ → w'.heap[b]? = w.heap[b]?) (hI : ∀ b κ, I b κ → I' b κ) {p : PV} {v : Value}
    (h : Rep I w p v) : Rep I' w' p v := by
  induction h with
  | lit v h => exact .lit v h
  | sl es xs A n c u hn hc hmax hA hes hcell hrep ih =>
    refine .sl es xs A n c u hn hc hmax (fun h => ?_) hes (fun ad i j p e hg => ?_) ih
    · obtain ⟨ad, e, hi⟩ := hA h
      exact ⟨ad, e, hI _ _ hi⟩
    · obtain ⟨ad', e', hi⟩ := hA (by have := get2_lt hg; omega)
      rw [e] at e'
      injection e' with e'
      subst e'
      exact (World.cell?_of_block (by rw [block_add]; exact hw _ _ hi)).trans (hcell ad i j p e hg)
theorem Rep.oneCell {I : Nat → Nat → Prop} {w : World} {p : PV} {v : Value} (h : Rep I w p v) : v.oneCell' = true := by
  cases h with
  | lit _ h => exact h
  | sl => rfl
/-- What a slot or a variable's cell holds. -/
inductive SV where
  | pv (p : PV)
  | agg (cs : List PV)
  | ref (id off : Nat)
  | cref (cs : List PV)
  | loc (es id g off len : Nat)
  | aref (es id g i off : Nat)
  | clos (f : Nat) (caps : List (Nat × Nat))
  | tup (vs : List SV)
  | yld (id : Nat)
  | mp (id : Nat)
  | itr (id : Nat)
/-- Where a named block lies, at each of its generations: undefined; nothing behind it; a block and its capacity in elements. -/
abbrev Phi := Nat → Nat → Option (Option (Nat × Nat))
inductive Srel (I : Nat → Nat → Prop) (φ : Phi) (w : World) : SV → Value → Prop where
  | pv (p : PV) (v : Value) (h : Rep I w p v) : Srel I φ w (.pv p) v
  | agg (cs : List PV) (vs : List Value) (hl : vs.length = cs.length) (h : ∀ (j : Nat) p u, cs[j]? = some p → vs[j]? = some u → Rep I w p u) : Srel I φ w (.agg cs) (.agg vs.toArray)
  | ref (id off b c : Nat) (h : φ id 0 = some (some (b, c))) : Srel I φ w (.ref id off) (.pointer (some ⟨b, off, none⟩))
  | cref (cs : List PV) (a : Addr) (u : Nat → Value) (κ : Nat) (hI : I a.block κ) (hc : ∀ (j : Nat) p, cs[j]? = some p → w.cell? (a.add j) = some (u j))
      (hr : ∀ (j : Nat) p, cs[j]? = some p → Rep I w p (u j)) : Srel I φ w (.cref cs) (.pointer (some a))
  | locNil (es id g : Nat) (h : φ id g = some none) : Srel I φ w (.loc es id g 0 0) (.slice none 0 0)
  | loc (es id g off len b c : Nat) (A : Option Addr) (h : φ id g = some (some (b, c))) (hl : off + len ≤ c) (hc : c ≤ maxLen) (hA : off < c ∨ off = 0 → A = some ⟨b, off * es, none⟩) :
      Srel I φ w (.loc es id g off len) (.slice A len (c - off))
  | aref (es id g i off b c : Nat) (h : φ id g = some (some (b, c))) : Srel I φ w (.aref es id g i off) (.pointer (some ⟨b, i * es + off, none⟩))
  | clos (f : Nat) (caps : List (Nat × Nat)) (vs : List Value) (hl : vs.length = caps.length)
      (h : ∀ (j : Nat) (q : Nat × Nat), caps[j]? = some q → ∃ b c, φ q.1 0 = some (some (b, c)) ∧ vs[j]? = some (.pointer (some ⟨b, q.2, none⟩))) :
      Srel I φ w (.clos f caps) (.func (.func f) #[] vs.toArray)
  | tup (svs : List SV) (vs : List Value) (hl : vs.length = svs.length) (h : ∀ (j : Nat) sv u, svs[j]? = some sv → vs[j]? = some u → Srel I φ w sv u) : Srel I φ w (.tup svs) (.tuple vs.toArray)
  | yld (id b c : Nat) (h : φ id 0 = some (some (b, c))) : Srel I φ w (.yld id) (.func (.yield b) #[] #[])
  | mp (id b c : Nat) (h : φ id 0 = some (some (b, c))) : Srel I φ w (.mp id) (.map (some b))
  | itr (id b c : Nat) (h : φ id 0 = some (some (b, c))) : Srel I φ w (.itr id) (.pointer (some ⟨b, 0, none⟩))
theorem Srel.mono {I I' : Nat → Nat → Prop} {φ φ' : Phi} {w w' : World} (hw : ∀ b κ, I b κ → w'.heap[b]? = w.heap[b]?) (hI : ∀ b κ, I b κ → I' b κ)
    (hφ : ∀ i g x, φ i g = some x → φ' i g = some x) {sv : SV} {v : Value} (h : Srel I φ w sv v) : Srel I' φ' w' sv v := by
  induction h with
  | pv p v h => exact .pv p v (h.mono hw hI)
  | agg cs vs hl h => exact .agg cs vs hl fun j p u a b => (h j p u a b).mono hw hI
  | ref id off b c h => exact .ref id off b c (hφ _ _ _ h)
  | cref cs a u κ hi hc hr =>
    exact .cref cs a u κ (hI _ _ hi) (fun j p hj => (World.cell?_of_block (by rw [block_add]; exact hw _ _ hi)).trans (hc j p hj)) fun j p hj => (hr j p hj).mono hw hI
  | locNil es id g h => exact .locNil es id g (hφ _ _ _ h)
  | loc es id g off len b c A h hl hc hA => exact .loc es id g off len b c A (hφ _ _ _ h) hl hc hA
  | aref es id g i off b c h => exact .aref es id g i off b c (hφ _ _ _ h)
  | clos f caps vs hl h =>
    refine .clos f caps vs hl fun j q hq => ?_
    obtain ⟨b, c, h1, h2⟩ := h j q hq
    exact ⟨b, c, hφ _ _ _ h1, h2⟩
  | tup svs vs hl h ih => exact .tup svs vs hl fun j sv u a b => ih j sv u a b
  | yld id b c h => exact .yld id b c (hφ _ _ _ h)
  | mp id b c h => exact .mp id b c (hφ _ _ _ h)
  | itr id b c h => exact .itr id b c (hφ _ _ _ h)
theorem Srel.lit_inv {I : Nat → Nat → Prop} {φ : Phi} {w : World} {u v : Value} (h : Srel I φ w (.pv (.lit u)) v) : v = u := by
  cases h with | pv p v h => cases h; rfl
theorem Srel.lit_one {I : Nat → Nat → Prop} {φ : Phi} {w : World} {u v : Value} (h : Srel I φ w (.pv (.lit u)) v) : u.oneCell' = true := by
  cases h with | pv p v h => cases h; assumption
/-- What a named block holds. -/
inductive ABlk where
  | box (cs : List SV)
  | arr (t es g : Nat) (frz : Bool) (xs : List (List PV))
  | dfr (op : Bool)
  | lrec (n : Nat) (s : List (Nat × SV)) (st : LoopState) (pend : Option Code) (ps : Array Nat) (assign body : Code) (d : Nat)
  | map (clock : Nat) (es : List (Nat × SV × SV))
  | mit (m since : Nat) (seen : List Nat) (last : Nat)
def ABlk.gen : ABlk → Nat
  | .arr _ _ g _ _ => g
  | _ => 0
/-- The first entry of a key. -/
def lk {β : Type} (i : Nat) : List (Nat × β) → Option β
  | [] => none
  | (k, b) :: r => if k = i then some b else lk i r
/-- The first entry of a key is replaced. -/
def hset {β : Type} (i : Nat) (b : β) : List (Nat × β) → List (Nat × β)
  | [] => []
  | (k, c) :: r => if k = i then (k, b) :: r else (k, c) :: hset i b r
theorem lk_hset_same {β : Type} {i : Nat} {b c : β} : ∀ {l : List (Nat × β)}, lk i l = some c → lk i (hset i b l) = some b
  | [], h => by simp [lk] at h
  | (k, d) :: r, h => by
    unfold lk at h
    unfold hset
    by_cases e : k = i
    · simp [e, lk]
    · simp only [e, if_false] at h ⊢
      simp only [lk, e, if_false]
      exact lk_hset_same h
theorem lk_hset_other {β : Type} {i j : Nat} {b : β} (h : j ≠ i) : ∀ {l : List (Nat × β)}, lk j (hset i b l) = lk j l
  | [] => rfl
  | (k, d) :: r => by
    unfold hset
    by_cases e : k = i
    · simp only [e, if_true, lk]
      rw [if_neg (fun e' => h e'.symm), if_neg (fun e' => h e'.symm)]
    · simp only [e, if_false, lk]
      rw [lk_hset_other h]
def Brel (I : Nat → Nat → Prop) (φ : Phi) (w : World) (i : Nat) : ABlk → Prop
  | .box cs => ∃ b c t vs, φ i 0 = some (some (b, c)) ∧ w.heap[b]? = some (.cells vs t (0, 0)) ∧ vs.size = cs.length ∧
      ∀ (j : Nat) sv, cs[j]? = some sv → ∃ u, vs[j]? = some u ∧ Srel I φ w sv u
  | .arr t es g frz xs => 0 < es ∧ (∀ x ∈ xs, x.length = es) ∧ ((φ i g = some none ∧ xs = []) ∨
      ∃ b c vs, φ i g = some (some (b, c)) ∧ w.heap[b]? = some (.cells vs t (0, 0)) ∧ vs.size = c * es ∧ xs.length ≤ c ∧ c ≤ maxLen ∧
        (∀ k j p, get2 xs k j = some p → ∃ u, vs[k * es + j]? = some u ∧ Rep I w p u) ∧ (frz = true → I b es))
  | .dfr op => ∃ b c, φ i 0 = some (some (b, c)) ∧ w.heap[b]? = some (.deferred (if op then some [] else none))
  | .lrec n s st pend ps assign body d => ∃ b c fn tms bd cd, φ i 0 = some (some (b, c)) ∧ φ d 0 = some (some (bd, cd)) ∧
      w.heap[b]? = some (.loop { state := st, pending := pend, fn, tmps := tms, params := ps, assign, body, defers := bd }) ∧ tms.size = n ∧
      ∀ t sv, lk t s = some sv → Srel I φ w sv (tms.getD t undef)
  | .map clock es => ∃ b c ents, φ i 0 = some (some (b, c)) ∧ w.heap[b]? = some (.map ents clock) ∧ ents.size = es.length ∧
      ∀ (j : Nat) q, es[j]? = some q → ∃ e, ents[j]? = some e ∧ e.born = q.1 ∧ Srel I φ w q.2.1 e.key ∧ Srel I φ w q.2.2 e.val
  | .mit m since seen last => ∃ b c bm cm, φ i 0 = some (some (b, c)) ∧ φ m 0 = some (some (bm, cm)) ∧ w.heap[b]? = some (.mapIter (some bm) since seen.toArray last)
/-- The block that may still be written. -/
def mblk (φ : Phi) (i : Nat) : ABlk → Option Nat
  | .arr _ _ g false _ => ((φ i g).bind id).map (·.1)
  | .arr _ _ _ true _ => none
  | _ => ((φ i 0).bind id).map (·.1)
theorem Brel.mono {I I' : Nat → Nat → Prop} {φ φ' : Phi} {w w' : World} {i : Nat} {blk : ABlk} (hw : ∀ b κ, I b κ → w'.heap[b]? = w.heap[b]?) (hI : ∀ b κ, I b κ → I' b κ)
    (hφ : ∀ i g x, φ i g = some x → φ' i g = some x) (hm : ∀ b, mblk φ i blk = some b → w'.heap[b]? = w.heap[b]?) (h : Brel I φ w i blk) : Brel I' φ' w' i blk := by
  cases blk with
  | box cs =>
    obtain ⟨b, c, t, vs, h1, h2, h3, h4⟩ := h
    refine ⟨b, c, t, vs, hφ _ _ _ h1, (hm b (by simp [mblk, h1])).trans h2, h3, fun j sv hj => ?_⟩
    obtain ⟨u, hu, hs⟩ := h4 j sv hj
    exact ⟨u, hu, hs.mono hw hI hφ⟩
  | arr t es g frz xs =>
    obtain ⟨h0, hx, h⟩ := h
    refine ⟨h0, hx, ?_⟩
    rcases h with ⟨h1, h2⟩ | ⟨b, c, vs, h1, h2, h3, h4, h5, h6, h7⟩
    · exact .inl ⟨hφ _ _ _ h1, h2⟩
    · refine .inr ⟨b, c, vs, hφ _ _ _ h1, ?_, h3, h4, h5, fun k j p hp => ?_, fun hf => hI _ _ (h7 hf)⟩
      · cases frz with
        | true => exact (hw b _ (h7 rfl)).trans h2
        | false => exact (hm b (by simp [mblk, h1])).trans h2
      · obtain ⟨u, hu, hr⟩ := h6 k j p hp
        exact ⟨u, hu, hr.mono hw hI⟩
  | dfr op =>
    obtain ⟨b, c, h1, h2⟩ := h
    exact ⟨b, c, hφ _ _ _ h1, (hm b (by simp [mblk, h1])).trans h2⟩
  | lrec n s st pend ps assign body d =>
    obtain ⟨b, c, fn, tms, bd, cd, h1, hd, h2, h3, h4⟩ := h
    exact ⟨b, c, fn, tms, bd, cd, hφ _ _ _ h1, hφ _ _ _ hd, (hm b (by simp [mblk, h1])).trans h2, h3, fun t sv ht => (h4 t sv ht).mono hw hI hφ⟩
  | map clock es =>
    obtain ⟨b, c, ents, h1, h2, h3, h4⟩ := h
    refine ⟨b, c, ents, hφ _ _ _ h1, (hm b (by simp [mblk, h1])).trans h2, h3, fun j q hq => ?_⟩
    obtain ⟨e, he, hbn, ha, hb⟩ := h4 j q hq
    exact ⟨e, he, hbn, ha.mono hw hI hφ, hb.mono hw hI hφ⟩
  | mit m since seen last =>
    obtain ⟨b, c, bm, cm, h1, h2, h3⟩ := h
    exact ⟨b, c, bm, cm, hφ _ _ _ h1, hφ _ _ _ h2, (hm b (by simp [mblk, h1])).trans h3⟩
/-- The named blocks and the machine's. -/
structure RH (nx : Nat) (I : Nat → Nat → Prop) (φ : Phi) (H : List (Nat × ABlk)) (w : World) : Prop where
  ilt : ∀ b κ, I b κ → b < w.heap.size
  dom : ∀ i g x, φ i g = some x → i < nx
  blk : ∀ i blk, lk i H = some blk → Brel I φ w i blk
  gen : ∀ i blk g x, lk i H = some blk → φ i g = some x → g ≤ blk.gen
  mlt : ∀ i blk b, lk i H = some blk → mblk φ i blk = some b → b < w.heap.size ∧ ∀ κ, ¬ I b κ
  inj : ∀ i j bi bj b, lk i H = some bi → lk j H = some bj → mblk φ i bi = some b → mblk φ j bj = some b → i = j
structure St where
  n : Nat
  nx : Nat
  s : List (Nat × SV)
  h : List (Nat × ABlk)
  d : List Nat
structure R (I : Nat → Nat → Prop) (φ : Phi) (st : St) (a : Act) (w : World) : Prop where
  rh : RH st.nx I φ st.h w
  size : a.tmps.size = st.n
  slot : ∀ t sv, lk t st.s = some sv → Srel I φ w sv (a.tmps.getD t undef)
  dlen : a.defers.length = st.d.length
  dmark : ∀ (k : Nat) i, st.d[k]? = some i → ∃ b c, φ i 0 = some (some (b, c)) ∧ a.defers[k]? = some { target := .collected b, args := #[] }
/-- A block of the machine that some named block may write. -/
def Mut (φ : Phi) (H : List (Nat × ABlk)) (b : Nat) : Prop := ∃ i blk, lk i H = some blk ∧ mblk φ i blk = some b
/-- From one state to a later one: what nobody named may write stays; what is immutable stays so; the names below n0 keep their meaning. -/
structure Ev (n0 : Nat) (I : Nat → Nat → Prop) (φ : Phi) (H : List (Nat × ABlk)) (w : World) (I' : Nat → Nat → Prop) (φ' : Phi) (H' : List (Nat × ABlk)) (w' : World) : Prop where
  os : w'.os = w.os
  tape : w'.tape = w.tape
  output : w'.output = w.output
  drawn : w.drawn ≤ w'.drawn
  size : w.heap.size ≤ w'.heap.size
  imm : ∀ b κ, I b κ → I' b κ
  frm : ∀ b, b < w.heap.size → ¬ Mut φ H b → w'.heap[b]? = w.heap[b]?
  mprov : ∀ b, Mut φ' H' b → Mut φ H b ∨ w.heap.size ≤ b
  iprov : ∀ b κ, I' b κ → I b κ ∨ Mut φ H b ∨ w.heap.size ≤ b
  phi : ∀ i g x, i < n0 → φ i g = some x → φ' i g = some x
  phiF : ∀ i, i < n0 → lk i H = none → φ' i = φ i
  keep : ∀ i, i < n0 → lk i H = none → lk i H' = none
theorem Ev.refl {n0 : Nat} {I : Nat → Nat → Prop} {φ : Phi} {H : List (Nat × ABlk)} {w : World} : Ev n0 I φ H w I φ H w :=
  ⟨rfl, rfl, rfl, Nat.le_refl _, Nat.le_refl _, fun _ _ h => h, fun _ _ _ => rfl, fun _ h => .inl h, fun _ _ h => .inl h, fun _ _ _ _ h => h, fun _ _ _ => rfl, fun _ _ h => h⟩
theorem Ev.trans {n0 : Nat} {I I1 I2 : Nat → Nat → Prop} {φ φ1 φ2 : Phi} {H H1 H2 : List (Nat × ABlk)} {w w1 w2 : World}
    (h : Ev n0 I φ H w I1 φ1 H1 w1) (k : Ev n0 I1 φ1 H1 w1 I2 φ2 H2 w2) : Ev n0 I φ H w I2 φ2 H2 w2 where
  os := k.os.trans h.os
  tape := k.tape.trans h.tape
  output := k.output.trans h.output
  drawn := Nat.le_trans h.drawn k.drawn
  size := Nat.le_trans h.size k.size
  imm := fun b κ hb => k.imm b κ (h.imm b κ hb)
  frm := fun b hb hm => (k.frm b (Nat.lt_of_lt_of_le hb h.size) (fun hm1 => by
    rcases h.mprov b hm1 with h1 | h1
    · exact hm h1
    · omega)).trans (h.frm b hb hm)
  mprov := fun b hb => by
    rcases k.mprov b hb with h1 | h1
    · exact h.mprov b h1
    · exact .inr (Nat.le_trans h.size h1)
  iprov := fun b κ hb => by
    rcases k.iprov b κ hb with h1 | h1 | h1
    · exact h.iprov b κ h1
    · rcases h.mprov b h1 with h2 | h2
      · exact .inr (.inl h2)
      · exact .inr (.inr h2)
    · exact .inr (.inr (Nat.le_trans h.size h1))
  phi := fun i g x hi hx => k.phi i g x hi (h.phi i g x hi hx)
  phiF := fun i hi hx => (k.phiF i hi (h.keep i hi hx)).trans (h.phiF i hi hx)
  keep := fun i hi hx => k.keep i hi (h.keep i hi hx)
/-- A run draws on. -/
theorem ask_drawn {α : Type} : ∀ (k : Ask α) (w : World), w.drawn ≤ (w.ask k).2.drawn
  | .done a, w => Nat.le_refl _
  | .ask what range k, w => by
    rw [World.ask]
    split
    · exact ask_drawn (k 0) w
    · exact Nat.le_trans (Nat.le_succ _) (ask_drawn (k _) { w with drawn := w.drawn + 1 })
theorem sys_drawn (w : World) (c : Sys) : w.drawn ≤ (w.sys c).2.drawn := by
  have h := ask_drawn (Kernel.perform c w.os) w
  unfold World.sys
  split
  · exact Nat.le_refl _
  · rename_i hx; rw [hx] at h; exact h
theorem farStore_drawn {P : Program} {w w' : World} {a : Addr} {v : Value} {b : Bool} {l : List Addr} (h : w.farStore P a v b = .ok (w', l)) : w.drawn ≤ w'.drawn := by
  unfold World.farStore at h
  split at h
  · split at h
    · rename_i r hv
      injection h with h
      subst h
      unfold World.viewStore at hv
      simp only [bind, Except.bind, pure, Except.pure] at hv
      repeat' split at hv
      all_goals first | (cases hv; done) | (injection hv with hv; injection hv with hv _; subst hv; exact Nat.le_refl _)
    · cases h
  · cases h
theorem run_drawn {P : Program} {α : Type} : ∀ (m : Sem α) {w w' : World} {a : α}, m.run P w = .ok a w' → w.drawn ≤ w'.drawn
  | .pure a, w, w', _, h => by rw [Sem.run] at h; injection h with _ h; subst h; exact Nat.le_refl _
  | .load m a k, w, w', _, h => by
    rw [Sem.run] at h
    split at h
    · exact run_drawn (k _) h
    · split at h
      · exact run_drawn (k _) h
      · cases h
  | .store m a v k, w, w', _, h => by
    cases v
    case agg => rw [Sem.run] at h; cases h
    case tuple => rw [Sem.run] at h; cases h
    all_goals rw [Sem.run] at h
    all_goals try (intro _ x; exact Value.noConfusion x)
    all_goals
      split at h
      · split at h
        · cases h
        · exact run_drawn k (w := w.setCell a _) h
      · split at h
        · rename_i hf; exact Nat.le_trans (farStore_drawn hf) (run_drawn k h)
        · cases h
  | .new o k, w, w', _, h => by rw [Sem.run] at h; exact run_drawn (k _) (w := { w with heap := w.heap.push o }) h
  | .shape r k, w, w', _, h => by rw [Sem.run] at h; exact run_drawn (k _) h
  | .freeze a n k, w, w', _, h => by
    rw [Sem.run] at h
    have := run_drawn k (w := w.freeze a n) h
    have e : (w.freeze a n).drawn = w.drawn := by unfold World.freeze; split <;> rfl
    rw [e] at this
    exact this
  | .frozen a k, w, w', _, h => by rw [Sem.run] at h; exact run_drawn (k _) h
  | .getObj r k, w, w', _, h => by
    rw [Sem.run] at h
    split at h
    · cases h
    · exact run_drawn (k _) h
    · cases h
  | .setObj r o k, w, w', _, h => by
    rw [Sem.run] at h
    split at h
    · cases h
    · exact run_drawn k (w := { w with heap := w.heap.setIfInBounds r o }) h
    · cases h
  | .choose q k, w, w', _, h => by
    rw [Sem.run] at h
    split at h
    · exact run_drawn (k _) h
    · exact Nat.le_trans (Nat.le_succ _) (run_drawn (k _) (w := { w with drawn := w.drawn + 1 }) h)
  | .sys c k, w, w', _, h => by rw [Sem.run] at h; exact Nat.le_trans (sys_drawn w c) (run_drawn (k _) h)
  | .program k, w, w', _, h => by rw [Sem.run] at h; exact run_drawn (k _) h
  | .mark _ k, w, w', _, h => by rw [Sem.run] at h; exact run_drawn k h
  | .halt _, w, w', _, h => by rw [Sem.run] at h; cases h
end Go.Vc
/- Part B: what is asserted of code, and the rules of control. -/
namespace Go.Vc
open Go.RowKit
/-- No fence, in a round or not. -/
def FW (r : Option Nat) : Fence := { fn := fun _ => True, depth := none, alive := false, round := r }
theorem FW_depth {r : Option Nat} {p : Prop} : (FW r).depth.isSome = true → p := fun h => by simp [FW] at h
/-- The round in which code runs: the named loop's block. -/
def rnd (φ : Phi) : Option Nat → Option Nat → Prop
  | none, l => l = none
  | some i, l => ∃ b c, φ i 0 = some (some (b, c)) ∧ l = some b
def Kp (n0 : Nat) (K : St → Prop) (I : Nat → Nat → Prop) (φ : Phi) (H : List (Nat × ABlk)) (w : World) (a' : Act) (w' : World) : Prop :=
  ∃ st' I' φ', K st' ∧ R I' φ' st' a' w' ∧ n0 ≤ st'.nx ∧ Ev n0 I φ H w I' φ' st'.h w'
def Post (n0 : Nat) (Q : Exit → St → Prop) (I : Nat → Nat → Prop) (φ : Phi) (H : List (Nat × ABlk)) (w : World) : Exit → Act → World → Prop
  | .panic _, _, _ => False
  | .outgrown, _, _ => False
  | e, a', w' => Kp n0 (Q e) I φ H w a' w'
variable {P : Program} {n0 : Nat} {r : Option Nat}
/-- Code, from a state, comes to Q; and the names below n0 are kept. -/
def PW (P : Program) (n0 : Nat) (r : Option Nat) (c : Code) (Q : Exit → St → Prop) (st : St) : Prop :=
  ∀ I φ a w l, R I φ st a w → n0 ≤ st.nx → (∀ i, r = some i → i < n0) → rnd φ r l → c.wpIn (FW l) 0 P (Post n0 Q I φ st.h w) a w
def PWl (P : Program) (n0 : Nat) (r : Option Nat) (ops : Array Oper) (l : List Oper) (K : St → Prop) (st : St) : Prop :=
  ∀ I φ a w b, R I φ st a w → n0 ≤ st.nx → (∀ i, r = some i → i < n0) → rnd φ r b → ∀ Q' : Exit → Act → World → Prop,
    (∀ a' w', Kp n0 K I φ st.h w a' w' → Q' .normal a' w') → wpListIn (FW b) 0 P ops Q' l a w
def PWo (P : Program) (n0 : Nat) (r : Option Nat) (o : Oper) (K : St → Prop) (st : St) : Prop :=
  ∀ I φ a w b, R I φ st a w → n0 ≤ st.nx → (∀ i, r = some i → i < n0) → rnd φ r b → ∀ (next : Act → World → Prop) (Q' : Exit → Act → World → Prop),
    (∀ a' w', Kp n0 K I φ st.h w a' w' → next a' w') → o.wpIn (FW b) 0 P a w next Q'
theorem rnd_ev {I φ H w I' φ' H' w'} (h : Ev n0 I φ H w I' φ' H' w') (hr : ∀ i, r = some i → i < n0) {l : Option Nat} (k : rnd φ r l) : rnd φ' r l := by
  cases r with
  | none => exact k
  | some i =>
    obtain ⟨b, c, h1, h2⟩ := k
    exact ⟨b, c, h.phi i 0 _ (hr i rfl) h1, h2⟩
theorem Kp.trans {K : St → Prop} {I φ H w I1 φ1 H1 w1} (h : Ev n0 I φ H w I1 φ1 H1 w1) {a' : Act} {w' : World} (k : Kp n0 K I1 φ1 H1 w1 a' w') : Kp n0 K I φ H w a' w' := by
  obtain ⟨st', I', φ', a, b, c, d⟩ := k
  exact ⟨st', I', φ', a, b, c, h.trans d⟩
theorem Kp.mono {K K' : St → Prop} (hK : ∀ st, K st → K' st) {I φ H w} {a' : Act} {w' : World} (k : Kp n0 K I φ H w a' w') : Kp n0 K' I φ H w a' w' := by
  obtain ⟨st', I', φ', a, b, c, d⟩ := k
  exact ⟨st', I', φ', hK _ a, b, c, d⟩
theorem Post.trans {Q : Exit → St → Prop} {I φ H w I1 φ1 H1 w1} (h : Ev n0 I φ H w I1 φ1 H1 w1) : ∀ (e : Exit) (a' : Act) (w' : World), Post n0 Q I1 φ1 H1 w1 e a' w' → Post n0 Q I φ H w e a' w'
  | .panic _, _, _, k => k
  | .outgrown, _, _, k => k
  | .normal, _, _, k => Kp.trans h k
  | .exit _, _, _, k => Kp.trans h k
  | .goto _, _, _, k => Kp.trans h k
  | .ret, _, _, k => Kp.trans h k
theorem Post.mono {Q Q' : Exit → St → Prop} (hQ : ∀ e st, Q e st → Q' e st) {I φ H w} : ∀ (e : Exit) (a' : Act) (w' : World), Post n0 Q I φ H w e a' w' → Post n0 Q' I φ H w e a' w'
  | .panic _, _, _, k => k
  | .outgrown, _, _, k => k
  | .normal, _, _, k => Kp.mono (hQ _) k
  | .exit _, _, _, k => Kp.mono (hQ _) k
  | .goto _, _, _, k => Kp.mono (hQ _) k
  | .ret, _, _, k => Kp.mono (hQ _) k
theorem PW.mono {c : Code} {Q Q' : Exit → St → Prop} {st : St} (h : PW P n0 r c Q st) (hQ : ∀ e st, Q e st → Q' e st) : PW P n0 r c Q' st :=
  fun I φ a w l hR hn hr hl => wpIn_mono (h I φ a w l hR hn hr hl) (Post.mono hQ)
theorem PWl.mono {ops : Array Oper} {l : List Oper} {K K' : St → Prop} {st : St} (h : PWl P n0 r ops l K st) (hK : ∀ st, K st → K' st) : PWl P n0 r ops l K' st :=
  fun I φ a w b hR hn hr hb Q' hq => h I φ a w b hR hn hr hb Q' fun a' w' k => hq a' w' (Kp.mono hK k)
theorem PWo.mono {o : Oper} {K K' : St → Prop} {st : St} (h : PWo P n0 r o K st) (hK : ∀ st, K st → K' st) : PWo P n0 r o K' st :=
  fun I φ a w b hR hn hr hb next Q' hq => h I φ a w b hR hn hr hb next Q' fun a' w' k => hq a' w' (Kp.mono hK k)
/-- A state that says less. -/
def Ent (n0 : Nat) (st st' : St) : Prop :=
  ∀ I φ a w, R I φ st a w → n0 ≤ st.nx → ∃ I' φ', R I' φ' st' a w ∧ n0 ≤ st'.nx ∧ Ev n0 I φ st.h w I' φ' st'.h w
theorem Ent.refl (st : St) : Ent n0 st st := fun I φ _ _ h hn => ⟨I, φ, h, hn, Ev.refl⟩
theorem Ent.trans {st st1 st2 : St} (h : Ent n0 st st1) (k : Ent n0 st1 st2) : Ent n0 st st2 := fun I φ a w hR hn => by
  obtain ⟨I1, φ1, r1, n1, e1⟩ := h I φ a w hR hn
  obtain ⟨I2, φ2, r2, n2, e2⟩ := k I1 φ1 a w r1 n1
  exact ⟨I2, φ2, r2, n2, e1.trans e2⟩
theorem PW.ent {c : Code} {Q : Exit → St → Prop} {st st' : St} (he : Ent n0 st st') (h : PW P n0 r c Q st') : PW P n0 r c Q st := fun I φ a w l hR hn hr hl => by
  obtain ⟨I1, φ1, r1, n1, e1⟩ := he I φ a w hR hn
  exact wpIn_mono (h I1 φ1 a w l r1 n1 hr (rnd_ev e1 hr hl)) (Post.trans e1)
theorem PWl.ent {ops : Array Oper} {l : List Oper} {K : St → Prop} {st st' : St} (he : Ent n0 st st') (h : PWl P n0 r ops l K st') : PWl P n0 r ops l K st := fun I φ a w b hR hn hr hb Q' hq => by
  obtain ⟨I1, φ1, r1, n1, e1⟩ := he I φ a w hR hn
  exact h I1 φ1 a w b r1 n1 hr (rnd_ev e1 hr hb) Q' fun a' w' k => hq a' w' (Kp.trans e1 k)
/-- The post may say less, too. -/
theorem Kp.ent {K : St → Prop} {I φ H w} {a' : Act} {w' : World} (k : Kp n0 (fun st => ∃ st', Ent n0 st st' ∧ K st') I φ H w a' w') : Kp n0 K I φ H w a' w' := by
  obtain ⟨st, I1, φ1, ⟨st', he, hk⟩, hR, hn, e1⟩ := k
  obtain ⟨I2, φ2, r2, n2, e2⟩ := he I1 φ1 a' w' hR hn
  exact ⟨st', I2, φ2, hk, r2, n2, e1.trans e2⟩
/-! ### Control -/
theorem pw_skip {Q : Exit → St → Prop} {st : St} (h : Q .normal st) : PW P n0 r .skip Q st := fun I φ _ _ _ hR hn _ _ => wpIn_skip ⟨st, I, φ, h, hR, hn, Ev.refl⟩
theorem pw_exit {Q : Exit → St → Prop} {st : St} {i : Nat} (h : Q (.exit i) st) : PW P n0 r (.exit i) Q st := fun I φ _ _ _ hR hn _ _ => wpIn_exit ⟨st, I, φ, h, hR, hn, Ev.refl⟩
theorem pw_ret {Q : Exit → St → Prop} {st : St} (h : Q .ret st) : PW P n0 r .ret Q st := fun I φ _ _ _ hR hn _ _ => wpIn_ret ⟨st, I, φ, h, hR, hn, Ev.refl⟩
/-- What follows normally; the other ways out as before. -/
def thenQ (K : St → Prop) (Q : Exit → St → Prop) : Exit → St → Prop
  | .normal, st => K st
  | e, st => Q e st
theorem pw_seq {x y : Code} {Q : Exit → St → Prop} {st : St} (h : ∀ K : St → Prop, (∀ st', PW P n0 r y Q st' → K st') → PW P n0 r x (thenQ K Q) st) : PW P n0 r (.seq x y) Q st := by
  intro I φ a w l hR hn hr hl
  refine wpIn_seq (wpIn_mono (h _ (fun _ h => h) I φ a w l hR hn hr hl) ?_)
  intro e a' w' hp
  cases e with
  | normal =>
    obtain ⟨st', I', φ', hk, hR', hn', hev⟩ := hp
    exact wpIn_mono (hk I' φ' a' w' l hR' hn' hr (rnd_ev hev hr hl)) (Post.trans hev)
  | panic ch => exact hp.elim
  | outgrown => exact hp.elim
  | exit i => exact hp
  | goto i => exact hp
  | ret => exact hp
theorem pw_cond {c : Operand} {x y : Code} {Q : Exit → St → Prop} {st : St} {t : Nat} {k : Bool} (hc : c = .tmp t) (ht : lk t st.s = some (.pv (.lit (.bool k))))
    (h1 : k = true → PW P n0 r x Q st) (h2 : k = false → PW P n0 r y Q st) : PW P n0 r (.cond c x y) Q st := by
  intro I φ a w l hR hn hr hl
  subst hc
  have hs := hR.slot t _ ht
  exact wpIn_cond_split (t := k) hs.lit_inv (fun e => h1 e I φ a w l hR hn hr hl) (fun e => h2 e I φ a w l hR hn hr hl)
def inBlockQ (i : Nat) (Q : Exit → St → Prop) : Exit → St → Prop
  | .exit j, st => if j = i then Q .normal st else Q (.exit j) st
  | e, st => Q e st
theorem pw_block {i : Nat} {c : Code} {Q : Exit → St → Prop} {st : St} (h : PW P n0 r c (inBlockQ i Q) st) : PW P n0 r (.block i c) Q st := by
  intro I φ a w l hR hn hr hl
  refine wpIn_block (wpIn_mono (h I φ a w l hR hn hr hl) ?_)
  intro e a' w' hp
  cases e with
  | exit j =>
    show Exit.inBlock i _ (.exit j) a' w'
    simp only [Exit.inBlock]
    by_cases e : j = i
    · rw [if_pos e]
      exact Kp.mono (fun st h => by simp only [inBlockQ] at h; rwa [if_pos e] at h) hp
    · rw [if_neg e]
      exact Kp.mono (fun st h => by simp only [inBlockQ] at h; rwa [if_neg e] at h) hp
  | panic ch => exact hp.elim
  | outgrown => exact hp.elim
  | normal => exact hp
  | goto j => exact hp
  | ret => exact hp
/-- A loop: a family of states, a measure; a round comes back to the family, lower, or leaves. -/
theorem pw_loop {c : Code} {Q : Exit → St → Prop} {st : St} {α : Type} (J : α → St) (μ : α → Nat) (ok : α → Prop) (x0 : α) (h0 : ok x0) (he : Ent n0 st (J x0))
    (round : ∀ x, ok x → ∀ K : St → Prop, (∀ st' x', Ent n0 st' (J x') → ok x' → μ x' < μ x → K st') → PW P n0 r c (thenQ K Q) (J x)) : PW P n0 r (.loop c) Q st := by
  intro I φ a w l hR hn hr hl
  obtain ⟨I1, φ1, r1, n1, e1⟩ := he I φ a w hR hn
  refine wpIn_mono (wpIn_loop (I := fun a' w' => ∃ x I' φ', ok x ∧ R I' φ' (J x) a' w' ∧ n0 ≤ (J x).nx ∧ Ev n0 I1 φ1 (J x0).h w I' φ' (J x).h w' )
    (μ := fun a' w' => Classical.epsilon (fun m => ∃ x I' φ', ok x ∧ R I' φ' (J x) a' w' ∧ n0 ≤ (J x).nx ∧ Ev n0 I1 φ1 (J x0).h w I' φ' (J x).h w' ∧ m = μ x ∧ ∀ y I'' φ'', ok y → R I'' φ'' (J y) a' w' → n0 ≤ (J y).nx → Ev n0 I1 φ1 (J x0).h w I'' φ'' (J y).h w' → μ x ≤ μ y))
    (Q := Post n0 Q I1 φ1 (J x0).h w) ⟨x0, I1, φ1, h0, r1, n1, Ev.refl⟩ ?_) (Post.trans e1)
  intro a1 w1 hI
  -- the least measure
  have least : ∀ (p : Nat → Prop), (∃ m, p m) → ∃ m, p m ∧ ∀ k, p k → m ≤ k := by
    intro p hp
    obtain ⟨m, hm⟩ := hp
    induction m using Nat.strongRecOn with
    | _ m ih =>
      by_cases hex : ∃ k, k < m ∧ p k
      · obtain ⟨k, hk, hpk⟩ := hex
        exact ih k hk hpk
      · exact ⟨m, hm, fun k hk => Nat.le_of_not_lt fun hlt => hex ⟨k, hlt, hk⟩⟩
  have exm : ∀ a' w', (∃ x I' φ', ok x ∧ R I' φ' (J x) a' w' ∧ n0 ≤ (J x).nx ∧ Ev n0 I1 φ1 (J x0).h w I' φ' (J x).h w') →
      ∃ m x I' φ', ok x ∧ R I' φ' (J x) a' w' ∧ n0 ≤ (J x).nx ∧ Ev n0 I1 φ1 (J x0).h w I' φ' (J x).h w' ∧ m = μ x ∧ ∀ y I'' φ'', ok y → R I'' φ'' (J y) a' w' → n0 ≤ (J y).nx → Ev n0 I1 φ1 (J x0).h w I'' φ'' (J y).h w' → μ x ≤ μ y := by
    intro a' w' ⟨x, I', φ', b1, b2, b3, b4⟩
    obtain ⟨m, ⟨x2, I2, φ2, c1, c2, c3, c4, rfl⟩, hmin⟩ := least (fun m => ∃ x I' φ', ok x ∧ R I' φ' (J x) a' w' ∧ n0 ≤ (J x).nx ∧ Ev n0 I1 φ1 (J x0).h w I' φ' (J x).h w' ∧ m = μ x) ⟨_, x, I', φ', b1, b2, b3, b4, rfl⟩
    exact ⟨_, x2, I2, φ2, c1, c2, c3, c4, rfl, fun y I'' φ'' d1 d2 d3 d4 => hmin _ ⟨y, I'', φ'', d1, d2, d3, d4, rfl⟩⟩
  have spec := Classical.epsilon_spec (exm a1 w1 hI)
  obtain ⟨x, I2, φ2, b1, b2, b3, b4, b5, b6⟩ := spec
  rw [b5]
  refine wpIn_mono (round x b1 _ (fun _ _ p q r => ⟨_, p, q, r⟩ : ∀ st' x', Ent n0 st' (J x') → ok x' → μ x' < μ x → ∃ x', Ent n0 st' (J x') ∧ ok x' ∧ μ x' < μ x) I2 φ2 a1 w1 l b2 b3 hr (rnd_ev b4 hr (rnd_ev e1 hr hl))) ?_
  intro e a' w' hp
  cases e with
  | normal =>
    obtain ⟨st', I3, φ3, ⟨x', c1, c2, c3⟩, hR3, hn3, hev⟩ := hp
    obtain ⟨I4, φ4, r4, n4, e4⟩ := c1 I3 φ3 a' w' hR3 hn3
    have hex : ∃ x I' φ', ok x ∧ R I' φ' (J x) a' w' ∧ n0 ≤ (J x).nx ∧ Ev n0 I1 φ1 (J x0).h w I' φ' (J x).h w' := ⟨x', I4, φ4, c2, r4, n4, (b4.trans hev).trans e4⟩
    refine ⟨hex, ?_⟩
    have spec' := Classical.epsilon_spec (exm a' w' hex)
    obtain ⟨x2, I5, φ5, d1, d2, d3, d4, d5, d6⟩ := spec'
    rw [d5]
    exact Nat.lt_of_le_of_lt (d6 x' I4 φ4 c2 r4 n4 ((b4.trans hev).trans e4)) c3
  | panic ch => exact hp.elim
  | outgrown => exact hp.elim
  | exit i => exact Post.trans b4 _ _ _ hp
  | goto i => exact Post.trans b4 _ _ _ hp
  | ret => exact Post.trans b4 _ _ _ hp
/-! ### Regions -/
theorem pw_region {i : Nat} {ops : Array Oper} {Q : Exit → St → Prop} {st : St} (h : PWl P n0 r ops ops.toList (Q .normal) st) : PW P n0 r (.region i ops false) Q st :=
  fun I φ a w l hR hn hr hl => wpIn_region_list (h I φ a w l hR hn hr hl _ fun _ _ k => k)
theorem pwl_nil {ops : Array Oper} {K : St → Prop} {st : St} (h : K st) : PWl P n0 r ops [] K st :=
  fun I φ a w _ hR hn _ _ _ hq => hq a w ⟨st, I, φ, h, hR, hn, Ev.refl⟩
def St.put (st : St) (d : Option Nat) (v : SV) : St := match d with
  | none => st
  | some t => { st with s := (t, v) :: st.s }
def St.fits (st : St) : Option Nat → Bool
  | none => true
  | some t => decide (t < st.n)
theorem R.put {I φ st a w} (h : R I φ st a w) {d : Option Nat} (hd : st.fits d = true) {sv : SV} {v : Value} (hs : Srel I φ w sv v) : R I φ (st.put d sv) (a.put d v) w := by
  cases d with
  | none => exact h
  | some t =>
    have hlt : t < st.n := by simpa [St.fits] using hd
    refine ⟨h.rh, by simp [Act.put, St.put, h.size], fun t' sv' hl => ?_, h.dlen, h.dmark⟩
    simp only [St.put, lk] at hl
    by_cases e : t = t'
    · subst e
      simp only [if_true, Option.some.injEq] at hl
      subst hl
      simpa [Act.put, Array.getD_eq_getD_getElem?, h.size, hlt] using hs
    · rw [if_neg e] at hl
      have := h.slot t' sv' hl
      simpa [Act.put, Array.getD_eq_getD_getElem?, Array.getElem?_setIfInBounds_ne e] using this
theorem R.world {I φ st a w w'} (h : R I φ st a w) (hh : w'.heap = w.heap) : R I φ st a w' where
  rh := ⟨fun b κ hb => hh ▸ h.rh.ilt b κ hb, h.rh.dom, fun i blk hl => (h.rh.blk i blk hl).mono (fun _ _ _ => by rw [hh]) (fun _ _ h => h) (fun _ _ _ h => h) (fun _ _ => by rw [hh]), h.rh.gen,
    fun i blk b hl hm => hh ▸ h.rh.mlt i blk b hl hm, h.rh.inj⟩
  size := h.size
  slot := fun t sv hl => (h.slot t sv hl).mono (fun _ _ _ => by rw [hh]) (fun _ _ h => h) (fun _ _ _ h => h)
  dlen := h.dlen
  dmark := h.dmark
theorem srel_undef {I φ w} : Srel I φ w (.tup []) undef := .tup [] [] rfl fun j sv u h => by simp at h
theorem pwl_cons {ops : Array Oper} {o : Oper} {l : List Oper} {K : St → Prop} {st : St} (hg : o.guard = none) (h : ∀ K' : St → Prop, (∀ st', PWl P n0 r ops l K st' → K' st') → PWo P n0 r o K' st) : PWl P n0 r ops (o :: l) K st := by
  intro I φ a w b hR hn hr hb Q' hq
  refine wpListIn_plain hg fun K2 hK2 => ?_
  refine h _ (fun _ h => h) I φ a w b hR hn hr hb _ _ fun a' w' hk => hK2 _ _ ?_
  obtain ⟨st', I', φ', hk, hR', hn', hev⟩ := hk
  exact hk I' φ' a' w' b hR' hn' hr (rnd_ev hev hr hb) Q' fun a2 w2 k2 => hq a2 w2 (Kp.trans hev k2)
theorem pwl_guard {ops : Array Oper} {o : Oper} {l : List Oper} {K : St → Prop} {st : St} {j t : Nat} {want k : Bool} (hg : o.guard = some (j, want)) (hj : (ops[j]?).bind (·.dst) = some t)
    (ht : lk t st.s = some (.pv (.lit (.bool k)))) (hf : st.fits o.dst = true)
    (h1 : k = want → ∀ K' : St → Prop, (∀ st', PWl P n0 r ops l K st' → K' st') → PWo P n0 r o K' st) (h2 : k ≠ want → PWl P n0 r ops l K (st.put o.dst (.tup []))) : PWl P n0 r ops (o :: l) K st := by
  intro I φ a w b hR hn hr hb Q' hq
  have hv : yielded ops a.tmps j = some k := by
    have hs := hR.slot t _ ht
    have e : a.tmps.getD t undef = .bool k := hs.lit_inv
    unfold yielded
    rw [hj]
    simp only [Option.bind_some]
    rw [Array.getD_eq_getD_getElem?] at e
    cases hx : a.tmps[t]? with
    | none => rw [hx] at e; simp [undef] at e
    | some x => rw [hx] at e; simp only [Option.getD_some] at e; subst e; rfl
  refine wpListIn_step fun K2 hK2 => ?_
  by_cases e : k = want
  · have hw : Region.wanted o (yielded ops a.tmps) = true := by simp [Region.wanted, hg, hv, e]
    rw [if_pos hw]
    refine h1 e _ (fun _ h => h) I φ a w b hR hn hr hb _ _ fun a' w' hk => hK2 _ _ ?_
    obtain ⟨st', I', φ', hk, hR', hn', hev⟩ := hk
    exact hk I' φ' a' w' b hR' hn' hr (rnd_ev hev hr hb) Q' fun a2 w2 k2 => hq a2 w2 (Kp.trans hev k2)
  · have hw : ¬ Region.wanted o (yielded ops a.tmps) = true := by
      simp only [Region.wanted, hg, hv]
      simpa using e
    rw [if_neg hw]
    exact ⟨fun _ _ => trivial, hK2 _ _ (h2 e I φ _ w b (hR.put hf srel_undef) (by cases o.dst <;> exact hn) hr hb Q' (by cases o.dst <;> exact hq))⟩
/-- An operation whose guard was itself passed over. -/
theorem pwl_pass {ops : Array Oper} {o : Oper} {l : List Oper} {K : St → Prop} {st : St} {j t : Nat} {want : Bool} (hg : o.guard = some (j, want)) (hj : (ops[j]?).bind (·.dst) = some t)
    (ht : lk t st.s = some (.tup [])) (hf : st.fits o.dst = true) (h2 : PWl P n0 r ops l K (st.put o.dst (.tup []))) : PWl P n0 r ops (o :: l) K st := by
  intro I φ a w b hR hn hr hb Q' hq
  have hv : yielded ops a.tmps j = none := by
    have hs := hR.slot t _ ht
    obtain ⟨vs, e⟩ : ∃ vs, a.tmps.getD t undef = .tuple vs := by
      generalize hgen : a.tmps.getD t undef = v at hs
      cases hs with
      | tup _ vs _ _ => exact ⟨_, rfl⟩
    unfold yielded
    rw [hj]
    simp only [Option.bind_some]
    rw [Array.getD_eq_getD_getElem?] at e
    cases hx : a.tmps[t]? with
    | none => rfl
    | some x => rw [hx] at e; simp only [Option.getD_some] at e; subst e; rfl
  refine wpListIn_step fun K2 hK2 => ?_
  have hw : ¬ Region.wanted o (yielded ops a.tmps) = true := by simp [Region.wanted, hg, hv]
  rw [if_neg hw]
  exact ⟨fun _ _ => trivial, hK2 _ _ (h2 I φ _ w b (hR.put hf srel_undef) (by cases o.dst <;> exact hn) hr hb Q' (by cases o.dst <;> exact hq))⟩
end Go.Vc
/- Part C: calls. -/
namespace Go.Vc
open Go.RowKit
variable {P : Program} {n0 : Nat} {r : Option Nat}
theorem Rep.lit_only {I I' : Nat → Nat → Prop} {w w' : World} {u v : Value} (h : Rep I w (.lit u) v) : Rep I' w' (.lit u) v := by
  cases h with | lit _ h => exact .lit _ h
mutual
/-- No name of a block occurs. -/
def SV.const : SV → Bool
  | .pv _ => true
  | .agg _ => true
  | .cref _ => true
  | .clos _ caps => caps.isEmpty
  | .tup vs => constL vs
  | _ => false
def constL : List SV → Bool
  | [] => true
  | v :: r => v.const && constL r
end
def PV.isLit : PV → Bool
  | .lit _ => true
  | _ => false
mutual
/-- Nothing in memory is meant. -/
def SV.scalar : SV → Bool
  | .pv p => p.isLit
  | .agg cs => cs.all PV.isLit
  | .clos _ caps => caps.isEmpty
  | .tup vs => scalarL vs
  | _ => false
def scalarL : List SV → Bool
  | [] => true
  | v :: r => v.scalar && scalarL r
end
theorem constL_get {l : List SV} (h : constL l = true) : ∀ (j : Nat) sv, l[j]? = some sv → sv.const = true := by
  induction l with
  | nil => intro j sv hj; simp at hj
  | cons v t ih =>
    intro j sv hj
    simp only [constL, Bool.and_eq_true] at h
    cases j with
    | zero => simp at hj; exact hj ▸ h.1
    | succ j => exact ih h.2 j sv (by simpa using hj)
theorem scalarL_get {l : List SV} (h : scalarL l = true) : ∀ (j : Nat) sv, l[j]? = some sv → sv.scalar = true := by
  induction l with
  | nil => intro j sv hj; simp at hj
  | cons v t ih =>
    intro j sv hj
    simp only [scalarL, Bool.and_eq_true] at h
    cases j with
    | zero => simp at hj; exact hj ▸ h.1
    | succ j => exact ih h.2 j sv (by simpa using hj)
theorem Srel.any_phi {I : Nat → Nat → Prop} {φ φ' : Phi} {w : World} {sv : SV} {v : Value} (h : Srel I φ w sv v) (hc : sv.const = true) : Srel I φ' w sv v := by
  induction h with
  | pv p v h => exact .pv p v h
  | agg cs vs hl h => exact .agg cs vs hl h
  | cref cs a u κ hi hcc hr => exact .cref cs a u κ hi hcc hr
  | clos f caps vs hl h =>
    obtain rfl : caps = [] := by simpa [SV.const] using hc
    exact .clos f [] vs hl fun j q hq => by simp at hq
  | tup svs vs hl h ih => exact .tup svs vs hl fun j sv u a b => ih j sv u a b (constL_get (by simpa [SV.const] using hc) j sv a)
  | _ => simp [SV.const] at hc
theorem Srel.any_world {I I' : Nat → Nat → Prop} {φ φ' : Phi} {w w' : World} {sv : SV} {v : Value} (h : Srel I φ w sv v) (hc : sv.scalar = true) : Srel I' φ' w' sv v := by
  induction h with
  | pv p v h =>
    cases p with
    | lit u => exact .pv _ _ h.lit_only
    | sl es xs => simp [SV.scalar, PV.isLit] at hc
  | agg cs vs hl h =>
    refine .agg cs vs hl fun j p u a b => ?_
    have hp : p.isLit = true := by
      simp only [SV.scalar, List.all_eq_true] at hc
      exact hc p (List.mem_of_getElem? a)
    cases p with
    | lit u => exact (h j _ _ a b).lit_only
    | sl es xs => simp [PV.isLit] at hp
  | clos f caps vs hl h =>
    obtain rfl : caps = [] := by simpa [SV.scalar] using hc
    exact .clos f [] vs hl fun j q hq => by simp at hq
  | tup svs vs hl h ih => exact .tup svs vs hl fun j sv u a b => ih j sv u a b (scalarL_get (by simpa [SV.scalar] using hc) j sv a)
  | _ => simp [SV.scalar] at hc
/-! ### Operands -/
def St.ev (st : St) : Operand → Option SV
  | .tmp t => lk t st.s
  | .const v => if v.oneCell' then some (.pv (.lit v)) else none
  | .func f => some (.clos f [])
  | .global _ => none
theorem ev_ok {I φ st a w} (h : R I φ st a w) {x : Operand} {sv : SV} (hx : st.ev x = some sv) : Srel I φ w sv (a.eval x) := by
  cases x with
  | tmp t => exact h.slot t sv hx
  | const v =>
    simp only [St.ev] at hx
    split at hx
    · injection hx with hx
      subst hx
      exact .pv _ _ (.lit _ ‹_›)
    · cases hx
  | func f =>
    simp only [St.ev, Option.some.injEq] at hx
    subst hx
    exact .clos f [] [] rfl fun j q hq => by simp at hq
  | global g => cases hx
def St.evs (st : St) : List Operand → Option (List SV)
  | [] => some []
  | x :: l => match st.ev x, st.evs l with
    | some v, some vs => some (v :: vs)
    | _, _ => none
theorem evs_ok {I φ st a w} (h : R I φ st a w) : ∀ {l : List Operand} {svs : List SV}, st.evs l = some svs → svs.length = l.length ∧ ∀ (j : Nat) sv u, svs[j]? = some sv → (l.map a.eval)[j]? = some u → Srel I φ w sv u
  | [], svs, hl => by
    simp only [St.evs, Option.some.injEq] at hl
    subst hl
    exact ⟨rfl, fun j sv u hj => by simp at hj⟩
  | x :: l, svs, hl => by
    simp only [St.evs] at hl
    split at hl
    · rename_i v vs h1 h2
      injection hl with hl
      subst hl
      obtain ⟨h3, h4⟩ := evs_ok h h2
      refine ⟨by simp [h3], fun j sv u hj hu => ?_⟩
      cases j with
      | zero =>
        simp only [List.getElem?_cons_zero, Option.some.injEq, List.map_cons] at hj hu
        subst hj hu
        exact ev_ok h h1
      | succ j => exact h4 j sv u (by simpa using hj) (by simpa using hu)
    · cases hl
/-! ### Lent arrays: what a callee may read while nobody writes -/
def bor (H : List (Nat × ABlk)) (live : Bool) : SV → Option SV
  | .loc es id g off len => match lk id H with
    | some (.arr _ es' g' frz xs) => if es = es' ∧ g = g' ∧ off + len ≤ xs.length ∧ (live || frz) = true then some (.pv (.sl es ((xs.drop off).take len))) else none
    | _ => none
  | .pv p => some (.pv p)
  | .agg cs => some (.agg cs)
  | .cref cs => some (.cref cs)
  | .clos f [] => some (.clos f [])
  | _ => none
def bors (H : List (Nat × ABlk)) (live : Bool) : List SV → Option (List SV)
  | [] => some []
  | x :: l => match bor H live x, bors H live l with
    | some v, some vs => some (v :: vs)
    | _, _ => none
theorem get2_sub {xs : List (List PV)} {off len i j : Nat} {p : PV} (h : get2 ((xs.drop off).take len) i j = some p) : get2 xs (off + i) j = some p ∧ i < len := by
  unfold get2 at h ⊢
  rw [List.getElem?_take] at h
  split at h
  · rename_i hi
    rw [List.getElem?_drop] at h
    exact ⟨h, hi⟩
  · simp at h
/-- A slice of an array that lies there is a slice that reads. -/
theorem loc_rep {I I' : Nat → Nat → Prop} {φ : Phi} {w : World} {i t es g g' off len : Nat} {frz : Bool} {xs : List (List PV)} {v : Value} (hb : Brel I φ w i (.arr t es g frz xs)) (hI : ∀ b κ, I b κ → I' b κ)
    (hm : ∀ b c, φ i g = some (some (b, c)) → I' b es) (hs : Srel I φ w (.loc es i g' off len) v) (hg : g' = g) (hl : off + len ≤ xs.length) : Rep I' w (.sl es ((xs.drop off).take len)) v := by
  subst hg
  obtain ⟨h0, hx, hb⟩ := hb
  cases hs with
  | locNil _ _ _ h =>
    refine .sl es _ none 0 0 (fun _ _ => undef) (by simp) (Nat.le_refl _) (by simp [maxLen]) (fun h => absurd h (by omega)) (fun x h => ?_) (fun ad i j p e => by cases e) (fun i j p h => ?_)
    · simp at h
    · simp [get2] at h
  | loc _ _ _ _ _ b c A h hle hmx hA =>
    rcases hb with ⟨h1, h2⟩ | ⟨b', c', vs, h1, h2, h3, h4, h5, h6, h7⟩
    · rw [h1] at h; cases h
    · rw [h1] at h
      injection h with h; injection h with h
      obtain ⟨rfl, rfl⟩ := Prod.mk.inj h
      have hA' : 0 < len → A = some ⟨b', off * es, none⟩ := fun hp => hA (.inl (by omega))
      refine .sl es _ A len (c' - off) (fun i j => vs.getD ((off + i) * es + j) undef) (by simp; omega) (by omega) (by omega) (fun hp => ⟨_, hA' hp, hm _ _ h1⟩) (fun x hxx => hx x (List.mem_of_mem_drop (List.mem_of_mem_take hxx))) ?_ ?_
      · intro ad i j p e hg
        obtain ⟨hg', hi⟩ := get2_sub hg
        obtain ⟨u, hu, hr⟩ := h6 _ _ _ hg'
        have e2 := hA' (by omega)
        rw [e] at e2
        injection e2 with e2
        subst e2
        have : (⟨b', off * es, none⟩ : Addr).add (i * es + j) = ⟨b', (off + i) * es + j, none⟩ := by
          unfold Addr.add
          split
          · rename_i hz
            have : (off + i) * es + j = off * es := by rw [Nat.add_mul]; omega
            rw [this]
          · simp only [Nat.add_mul, Nat.add_assoc]
        rw [this]
        simp [World.cell?, h2, Array.getD_eq_getD_getElem?, hu]
      · intro i j p hg
        obtain ⟨hg', hi⟩ := get2_sub hg
        obtain ⟨u, hu, hr⟩ := h6 _ _ _ hg'
        simp only [Array.getD_eq_getD_getElem?, hu, Option.getD_some]
        exact hr.mono (fun _ _ _ => rfl) hI
/-- An array of one's own, of elements of this size, lies there. -/
def MutK (φ : Phi) (H : List (Nat × ABlk)) (b κ : Nat) : Prop := ∃ i t g frz xs, lk i H = some (.arr t κ g frz xs) ∧ mblk φ i (.arr t κ g frz xs) = some b
theorem MutK.mut {φ : Phi} {H : List (Nat × ABlk)} {b κ : Nat} (h : MutK φ H b κ) : Mut φ H b := by
  obtain ⟨i, t, g, frz, xs, h1, h2⟩ := h
  exact ⟨i, _, h1, h2⟩
theorem bor_ok {I φ st a w} (h : R I φ st a w) {live : Bool} {sv sv' : SV} {v : Value} (hs : Srel I φ w sv v) (hb : bor st.h live sv = some sv') :
    Srel (fun b κ => I b κ ∨ (live = true ∧ MutK φ st.h b κ)) φ w sv' v ∧ sv'.const = true := by
  have up : ∀ {sv v}, Srel I φ w sv v → Srel (fun b κ => I b κ ∨ (live = true ∧ MutK φ st.h b κ)) φ w sv v := fun h => h.mono (fun _ _ _ => rfl) (fun _ _ h => .inl h) fun _ _ _ h => h
  cases sv with
  | loc es id g off len =>
    simp only [bor] at hb
    split at hb
    · rename_i t es' g' frz xs hl
      split at hb
      · rename_i hc
        obtain ⟨rfl, rfl, hle, hf⟩ := hc
        injection hb with hb
        subst hb
        refine ⟨.pv _ _ (loc_rep (h.rh.blk _ _ hl) (fun _ _ h => .inl h) (fun b c hφ => ?_) hs rfl hle), rfl⟩
        cases frz with
        | true =>
          obtain ⟨_, _, hb⟩ := h.rh.blk _ _ hl
          rcases hb with ⟨h1, _⟩ | ⟨b', c', vs, h1, _, _, _, _, _, h7⟩
          · rw [h1] at hφ; cases hφ
          · rw [h1] at hφ; cases hφ; exact .inl (h7 rfl)
        | false => exact .inr ⟨by simpa using hf, id, _, _, _, _, hl, by simp [mblk, hφ]⟩
      · cases hb
    · cases hb
  | pv p => simp only [bor, Option.some.injEq] at hb; subst hb; exact ⟨up hs, rfl⟩
  | agg cs => simp only [bor, Option.some.injEq] at hb; subst hb; exact ⟨up hs, rfl⟩
  | cref cs => simp only [bor, Option.some.injEq] at hb; subst hb; exact ⟨up hs, rfl⟩
  | clos f caps =>
    cases caps with
    | nil => simp only [bor, Option.some.injEq] at hb; subst hb; exact ⟨up hs, rfl⟩
    | cons => cases hb
  | _ => cases hb
theorem bors_ok {I φ st a w} (h : R I φ st a w) {live : Bool} : ∀ {svs cs : List SV} {us : List Value}, bors st.h live svs = some cs → (∀ (j : Nat) sv u, svs[j]? = some sv → us[j]? = some u → Srel I φ w sv u) →
    cs.length = svs.length ∧ ∀ (j : Nat) sv u, cs[j]? = some sv → us[j]? = some u → Srel (fun b κ => I b κ ∨ (live = true ∧ MutK φ st.h b κ)) φ w sv u ∧ sv.const = true
  | [], cs, us, hb, _ => by
    simp only [bors, Option.some.injEq] at hb
    subst hb
    exact ⟨rfl, fun j sv u hj => by simp at hj⟩
  | x :: l, cs, us, hb, hs => by
    simp only [bors] at hb
    split at hb
    · rename_i v vs h1 h2
      injection hb with hb
      subst hb
      cases us with
      | nil =>
        obtain ⟨h3, _⟩ := bors_ok (us := []) h h2 (fun j sv u _ hu => by simp at hu)
        exact ⟨by simp [h3], fun j sv u _ hu => by simp at hu⟩
      | cons u us =>
        obtain ⟨h3, h4⟩ := bors_ok (us := us) h h2 (fun j sv u hj hu => hs (j + 1) sv u (by simpa using hj) (by simpa using hu))
        refine ⟨by simp [h3], fun j sv u' hj hu => ?_⟩
        cases j with
        | zero =>
          simp only [List.getElem?_cons_zero, Option.some.injEq] at hj hu
          subst hj hu
          exact bor_ok h (hs 0 x u rfl rfl) h1
        | succ j => exact h4 j sv u' (by simpa using hj) (by simpa using hu)
    · cases hb
/-! ### Contracts -/
def Enters (P : Program) (f : Nat) : Prop := ∀ args w, (callFunc f args).run P w = .ok (.enter f args) w
/-- A call in a heap of named blocks. -/
def PC (P : Program) (f : Nat) (args : List SV) (nx : Nat) (H : List (Nat × ABlk)) (Q : SV → Nat → List (Nat × ABlk) → Prop) : Prop :=
  Enters P f ∧ ∀ I φ w (vs : List Value), RH nx I φ H w → vs.length = args.length → (∀ (j : Nat) sv u, args[j]? = some sv → vs[j]? = some u → Srel I φ w sv u) →
    CallsIn (FW none) 0 P f vs.toArray w fun e w' => ∃ v sv nx' H' I' φ', e = .returned v ∧ Q sv nx' H' ∧ RH nx' I' φ' H' w' ∧ nx ≤ nx' ∧ Srel I' φ' w' sv v ∧ Ev nx I φ H w I' φ' H' w'
/-- A call of a function that is handed no names of blocks and hands none back. -/
def CC (P : Program) (f : Nat) (args : List SV) (Q : SV → Prop) : Prop := PC P f args 0 [] fun sv _ _ => Q sv ∧ sv.const = true
theorem PC.mono {f args nx H} {Q Q' : SV → Nat → List (Nat × ABlk) → Prop} (h : PC P f args nx H Q) (hQ : ∀ sv nx' H', Q sv nx' H' → Q' sv nx' H') : PC P f args nx H Q' :=
  ⟨h.1, fun I φ w vs a b c => (h.2 I φ w vs a b c).mono fun _ _ ⟨v, sv, nx', H', I', φ', e, q, k⟩ => ⟨v, sv, nx', H', I', φ', e, hQ _ _ _ q, k⟩⟩
theorem CC.mono {f args} {Q Q' : SV → Prop} (h : CC P f args Q) (hQ : ∀ sv, Q sv → Q' sv) : CC P f args Q' := PC.mono h fun sv _ _ ⟨a, b⟩ => ⟨hQ sv a, b⟩
theorem rh_empty {I : Nat → Nat → Prop} {w : World} (h : ∀ b κ, I b κ → b < w.heap.size) : RH 0 I (fun _ _ => none) [] w where
  ilt := h
  dom := fun _ _ _ h => by cases h
  blk := fun _ _ h => by cases h
  gen := fun _ _ _ _ h => by cases h
  mlt := fun _ _ _ h => by cases h
  inj := fun _ _ _ _ _ h => by cases h
/-- What is left of a state when memory has only grown. -/
theorem R.grown {I I' φ st a w w'} (h : R I φ st a w) (hsz : w.heap.size ≤ w'.heap.size) (hh : ∀ b, b < w.heap.size → w'.heap[b]? = w.heap[b]?) (hI : ∀ b κ, I b κ → I' b κ)
    (hI' : ∀ b κ, I' b κ → I b κ ∨ w.heap.size ≤ b) (hlt : ∀ b κ, I' b κ → b < w'.heap.size) : R I' φ st a w' where
  rh := { ilt := hlt, dom := h.rh.dom, gen := h.rh.gen, inj := h.rh.inj
          blk := fun i blk hl => (h.rh.blk i blk hl).mono (fun b κ hb => hh b (h.rh.ilt b κ hb)) hI (fun _ _ _ h => h) (fun b hb => hh b (h.rh.mlt i blk b hl hb).1)
          mlt := fun i blk b hl hm => by
            obtain ⟨h1, h2⟩ := h.rh.mlt i blk b hl hm
            exact ⟨by omega, fun κ hb => by rcases hI' b κ hb with h3 | h3 <;> first | exact h2 κ h3 | omega⟩ }
  size := h.size
  slot := fun t sv hl => (h.slot t sv hl).mono (fun b κ hb => hh b (h.rh.ilt b κ hb)) hI fun _ _ _ h => h
  dlen := h.dlen
  dmark := h.dmark
theorem uponIn_call {o : Oper} {a : Act} {w : World} {b : Option Nat} {c : Call} {f : Nat} {caps args : Array Value} {next : Act → World → Prop} {Q' : Exit → Act → World → Prop}
    (ho : o.op = .call c) (hc : ∃ x, c.callee = .value x ∧ a.eval x = .func (.func f) #[] caps ∧ args = c.args.map a.eval ++ caps) (he : Enters P f)
    (h : CallsIn (FW none) 0 P f args w fun e w' => ∃ v, e = .returned v ∧ next (a.put o.dst v) w') : o.wpIn (FW b) 0 P a w next Q' := by
  obtain ⟨x, hx, hv, rfl⟩ := hc
  refine ⟨fun _ _ => trivial, ?_⟩
  rw [Oper.semAt_eq _ _ _ (fun d => by rw [ho]; simp)]
  have hrun : (execOp a.eval o).run P w = .ok (.enter f (c.args.map a.eval ++ caps)) w := by
    unfold execOp
    simp only [ho]
    unfold resolve
    simp only [hx, hv, Deferred.ofValue, Sem.run_bind, Sem.run_pure, Result.andThen_ok, invoke]
    rw [he]
    simp
  rw [hrun, Oper.uponIn_enter]
  refine ⟨FW_depth, ?_⟩
  have h' : CallsIn (FW b) (0 - 1) P f (c.args.map a.eval ++ caps) w fun e w' => ∃ v, e = .returned v ∧ next (a.put o.dst v) w' := h
  exact h'.mono fun e w' ⟨v, e', hn⟩ => by subst e'; exact hn
/-- A call of a function by name: its arguments lent, its result no memory ('live'), or its arguments for good. -/
theorem pwo_callc {o : Oper} {c : Call} {x : Operand} {f : Nat} {svs cs : List SV} {st : St} {K : St → Prop} (live : Bool) {Qr : SV → Prop}
    (ho : o.op = .call c) (hx : c.callee = .value x) (hv : st.ev x = some (.clos f [])) (ha : st.evs c.args.toList = some svs) (hb : bors st.h live svs = some cs) (hf : st.fits o.dst = true)
    (hC : CC P f cs Qr) (hK : ∀ sv, Qr sv → sv.const = true → (live = true → sv.scalar = true) ∧ K (st.put o.dst sv)) : PWo P n0 r o K st := by
  intro I φ a w b hR hn hr hrb next Q' hq
  obtain ⟨ha1, ha2⟩ := evs_ok hR ha
  obtain ⟨hb1, hb2⟩ := bors_ok hR hb ha2
  have hev := ev_ok hR hv
  have hfun : ∃ caps, a.eval x = .func (.func f) #[] caps ∧ caps = #[] := by
    generalize a.eval x = v at hev
    cases hev with
    | clos _ _ vs hl _ => exact ⟨_, rfl, by obtain rfl : vs = [] := List.eq_nil_of_length_eq_zero hl; rfl⟩
  obtain ⟨caps, hfv, rfl⟩ := hfun
  refine uponIn_call ho ⟨x, hx, hfv, rfl⟩ hC.1 ?_
  obtain ⟨I2, hI2⟩ : ∃ I2 : Nat → Nat → Prop, I2 = fun b κ => I b κ ∨ (live = true ∧ MutK φ st.h b κ) := ⟨_, rfl⟩
  have hI2lt : ∀ b κ, I2 b κ → b < w.heap.size := by
    intro b κ hb
    rw [hI2] at hb
    rcases hb with hb | ⟨_, hm⟩
    · exact hR.rh.ilt b κ hb
    · obtain ⟨i, blk, hl, hm⟩ := hm.mut
      exact (hR.rh.mlt i blk b hl hm).1
  have harr : c.args.map a.eval ++ #[] = (c.args.toList.map a.eval).toArray := by apply Array.ext'; simp
  rw [harr]
  refine (hC.2 I2 (fun _ _ => none) w (c.args.toList.map a.eval) (rh_empty hI2lt) (by rw [hb1, ha1]; simp) (fun j sv u hj hu => ?_)).mono ?_
  · obtain ⟨h1, h2⟩ := hb2 j sv u hj hu
    rw [hI2]
    exact h1.any_phi h2
  · rintro e w' ⟨v, sv, nx', H', I', φ', rfl, ⟨hQr, hco⟩, hRH, _, hs, hev2⟩
    obtain ⟨hsc, hk⟩ := hK sv hQr hco
    have hnm : ∀ b, ¬ Mut (fun _ _ => none) [] b := fun b ⟨i, blk, hl, _⟩ => by cases hl
    have hold : ∀ b, b < w.heap.size → w'.heap[b]? = w.heap[b]? := fun b hb => hev2.frm b hb (hnm b)
    refine ⟨v, rfl, hq _ _ ?_⟩
    cases live with
    | true =>
      have hR' : R I φ st a w' := hR.grown hev2.size hold (fun _ _ h => h) (fun _ _ h => .inl h) fun b κ hb => Nat.lt_of_lt_of_le (hR.rh.ilt b κ hb) hev2.size
      refine ⟨_, I, φ, hk, hR'.put hf (hs.any_world (hsc rfl)), by cases o.dst <;> exact hn, ?_⟩
      have : (st.put o.dst sv).h = st.h := by cases o.dst <;> rfl
      rw [this]
      exact ⟨hev2.os, hev2.tape, hev2.output, hev2.drawn, hev2.size, fun _ _ h => h, fun b hb _ => hold b hb, fun _ h => .inl h, fun _ _ h => .inl h, fun _ _ _ _ h => h, fun _ _ _ => rfl, fun _ _ h => h⟩
    | false =>
      have e2 : I2 = I := by rw [hI2]; funext b κ; simp
      subst e2
      have hip : ∀ b κ, I' b κ → I2 b κ ∨ w.heap.size ≤ b := fun b κ hb => by
        rcases hev2.iprov b κ hb with h | h | h
        · exact .inl h
        · exact absurd h (hnm b)
        · exact .inr h
      have hR' : R I' φ st a w' := hR.grown hev2.size hold hev2.imm hip hRH.ilt
      refine ⟨_, I', φ, hk, hR'.put hf (hs.any_phi hco), by cases o.dst <;> exact hn, ?_⟩
      have : (st.put o.dst sv).h = st.h := by cases o.dst <;> rfl
      rw [this]
      exact ⟨hev2.os, hev2.tape, hev2.output, hev2.drawn, hev2.size, hev2.imm, fun b hb _ => hold b hb, fun _ h => .inl h, fun b κ h => by rcases hip b κ h with h | h; exact .inl h; exact .inr (.inr h), fun _ _ _ _ h => h, fun _ _ _ => rfl, fun _ _ h => h⟩
end Go.Vc
/- Part D: operations that leave memory as it is. -/
namespace Go.Vc
open Go.RowKit
variable {P : Program} {n0 : Nat} {r : Option Nat}
/-! ### What the program's types say -/
def tsz (P : Program) (t : TypeId) : Option Nat := (P.info? t).map (·.size)
def tagg (P : Program) (t : TypeId) : Option Bool := (P.underlying t).map fun | .struct _ | .array _ _ => true | _ => false
/-- A slice type's element type. -/
def tel (P : Program) (t : TypeId) : Option TypeId := match P.underlying t with | some (.slice e) => some e | _ => none
/-- A field's offset, where the field has cells. -/
def foff (P : Program) (s : TypeId) (f : Nat) : Option Nat := match P.underlying s with
  | some (.struct fs) => match fs[f]? with
    | some fd => match tsz P fd.type with
      | some (_ + 1) => some fd.offset
      | _ => none
    | none => none
  | _ => none
/-- An array type's length and element type. -/
def tarr (P : Program) (t : TypeId) : Option (Nat × TypeId) := match P.underlying t with | some (.array n e) => some (n, e) | _ => none
def tint (P : Program) (t : TypeId) : Option IntKind := match P.underlying t with | some (.int k) => some k | _ => none
def tstr (P : Program) (t : TypeId) : Bool := match P.underlying t with | some .string => true | _ => false
def tbool (P : Program) (t : TypeId) : Bool := match P.underlying t with | some .bool => true | _ => false
theorem run_tsz {t : TypeId} {n : Nat} (h : tsz P t = some n) (w : World) : (sizeOf t).run P w = .ok n w := by
  unfold tsz at h
  cases hi : P.info? t with
  | none => simp [hi] at h
  | some i => simp [hi] at h; simp [sizeOf, typeInfo, hi, h]
theorem run_tagg {t : TypeId} {b : Bool} (h : tagg P t = some b) (w : World) : (isAgg t).run P w = .ok b w := by
  unfold tagg at h
  cases hi : P.underlying t with
  | none => simp [hi] at h
  | some d =>
    simp only [hi, Option.map_some, Option.some.injEq] at h
    simp only [isAgg, underlying, Sem.run_bind, run_program, Result.andThen_ok, hi, Sem.run_pure]
    subst h
    cases d <;> rfl
theorem und_tel {t e : TypeId} (h : tel P t = some e) : P.underlying t = some (.slice e) := by
  unfold tel at h
  split at h
  · rename_i e' h'; injection h with h; subst h; exact h'
  · cases h
theorem run_und {t : TypeId} {d : TypeDesc} (h : P.underlying t = some d) (w : World) : (underlying t).run P w = .ok d w := by simp [underlying, h]
theorem run_loadVar_one {t : TypeId} {a : Addr} {v : Value} {w : World} (h : tagg P t = some false) (hc : w.cell? a = some v) : (loadVar t a).run P w = .ok v w := by
  simp [loadVar, run_tagg h, hc]
theorem run_loadVar_agg {t : TypeId} {a : Addr} {vs : List Value} {w : World} (h : tagg P t = some true) (hn : tsz P t = some vs.length) (hc : ∀ (j : Nat) v, vs[j]? = some v → w.cell? (a.add j) = some v) :
    (loadVar t a).run P w = .ok (.agg vs.toArray) w := by
  simp [loadVar, run_tagg h, run_tsz hn, run_loadCells_list (P := P) w a vs hc]
/-! ### Reading -/
def toPV (H : List (Nat × ABlk)) : SV → Option PV
  | .pv p => some p
  | .loc es id g off len => match lk id H with
    | some (.arr _ es' g' true xs) => if es = es' ∧ g = g' ∧ off + len ≤ xs.length then some (.sl es ((xs.drop off).take len)) else none
    | _ => none
  | .clos f [] => some (.lit (.func (.func f) #[] #[]))
  | _ => none
def pvs (H : List (Nat × ABlk)) : List SV → Option (List PV)
  | [] => some []
  | x :: l => match toPV H x, pvs H l with
    | some p, some ps => some (p :: ps)
    | _, _ => none
theorem toPV_ok {nx I φ H w} (h : RH nx I φ H w) {sv : SV} {p : PV} {v : Value} (hp : toPV H sv = some p) (hs : Srel I φ w sv v) : Rep I w p v := by
  cases sv with
  | pv q => simp only [toPV, Option.some.injEq] at hp; subst hp; cases hs; assumption
  | loc es id g off len =>
    simp only [toPV] at hp
    split at hp
    · rename_i t es' g' xs hl
      split at hp
      · rename_i hc
        obtain ⟨rfl, rfl, hle⟩ := hc
        injection hp with hp
        subst hp
        refine loc_rep (h.blk _ _ hl) (fun _ _ h => h) (fun b c hφ => ?_) hs rfl hle
        obtain ⟨_, _, hb⟩ := h.blk _ _ hl
        rcases hb with ⟨h1, _⟩ | ⟨b', c', vs, h1, _, _, _, _, _, h7⟩
        · rw [h1] at hφ; cases hφ
        · rw [h1] at hφ; cases hφ; exact h7 rfl
      · cases hp
    · cases hp
  | clos f caps =>
    cases caps with
    | nil =>
      simp only [toPV, Option.some.injEq] at hp
      subst hp
      cases hs with
      | clos _ _ vs hl _ => obtain rfl : vs = [] := List.eq_nil_of_length_eq_zero hl; exact .lit _ rfl
    | cons => simp [toPV] at hp
  | _ => simp [toPV] at hp
theorem pvs_ok {nx I φ H w} (h : RH nx I φ H w) : ∀ {l : List SV} {ps : List PV} {vs : List Value}, pvs H l = some ps → (∀ (j : Nat) sv, l[j]? = some sv → ∃ u, vs[j]? = some u ∧ Srel I φ w sv u) →
    ps.length = l.length ∧ ∀ (j : Nat) p, ps[j]? = some p → ∃ u, vs[j]? = some u ∧ Rep I w p u
  | [], ps, vs, hp, _ => by
    simp only [pvs, Option.some.injEq] at hp
    subst hp
    exact ⟨rfl, fun j p hj => by simp at hj⟩
  | x :: l, ps, vs, hp, hs => by
    simp only [pvs] at hp
    split at hp
    · rename_i p qs h1 h2
      injection hp with hp
      subst hp
      obtain ⟨h3, h4⟩ := pvs_ok (vs := vs.tail) h h2 (fun j sv hj => by
        obtain ⟨u, hu, hs⟩ := hs (j + 1) sv (by simpa using hj)
        exact ⟨u, by rw [List.getElem?_tail]; exact hu, hs⟩)
      refine ⟨by simp [h3], fun j q hj => ?_⟩
      cases j with
      | zero =>
        simp only [List.getElem?_cons_zero, Option.some.injEq] at hj
        subst hj
        obtain ⟨u, hu, hs⟩ := hs 0 x rfl
        exact ⟨u, hu, toPV_ok h h1 hs⟩
      | succ j =>
        obtain ⟨u, hu, hr⟩ := h4 j q (by simpa using hj)
        exact ⟨u, by rw [List.getElem?_tail] at hu; exact hu, hr⟩
    · cases hp
/-- What lies from a cell on, as a value of a type. -/
def rdc (P : Program) (t : TypeId) (cs : List PV) : Option SV := match tagg P t with
  | some false => (cs[0]?).map .pv
  | some true => match tsz P t with
    | some n => if n ≤ cs.length then some (.agg (cs.take n)) else none
    | none => none
  | none => none
theorem rdc_ok {I φ w t cs sv} {a : Addr} (h : rdc P t cs = some sv) (hc : ∀ (j : Nat) p, cs[j]? = some p → ∃ u, w.cell? (a.add j) = some u ∧ Rep I w p u) : ∃ v, (loadVar t a).run P w = .ok v w ∧ Srel I φ w sv v := by
  unfold rdc at h
  split at h
  · rename_i hg
    obtain ⟨p, hp, rfl⟩ := Option.map_eq_some_iff.1 h
    obtain ⟨u, hu, hr⟩ := hc 0 p hp
    exact ⟨u, run_loadVar_one hg (by simpa [Addr.add] using hu), .pv _ _ hr⟩
  · rename_i hg
    split at h
    · rename_i n hn
      split at h
      · rename_i hle
        injection h with h
        subst h
        obtain ⟨f, hf⟩ : ∃ f : Nat → Value, ∀ (j : Nat) p, cs[j]? = some p → w.cell? (a.add j) = some (f j) ∧ Rep I w p (f j) := by
          refine ⟨fun j => (w.cell? (a.add j)).getD undef, fun j p hj => ?_⟩
          obtain ⟨u, hu, hr⟩ := hc j p hj
          simp only [hu, Option.getD_some]
          exact ⟨trivial, hr⟩
        refine ⟨.agg ((List.range n).map f).toArray, run_loadVar_agg hg (by simpa using hn) (fun j v hj => ?_), .agg _ _ (by simp; omega) (fun j p u hj hu => ?_)⟩
        · obtain ⟨hlt, rfl⟩ : j < n ∧ f j = v := by
            rw [List.getElem?_map] at hj
            rcases Nat.lt_or_ge j n with hlt | hge
            · rw [List.getElem?_range hlt] at hj; exact ⟨hlt, by simpa using hj⟩
            · rw [List.getElem?_eq_none (by simpa using hge)] at hj; cases hj
          have hj' : cs[j]? = some cs[j] := List.getElem?_eq_getElem (by omega)
          exact (hf j _ hj').1
        · rw [List.getElem?_take] at hj
          split at hj
          · rename_i hlt
            rw [List.getElem?_map, List.getElem?_range hlt] at hu
            simp only [Option.map_some, Option.some.injEq] at hu
            subst hu
            exact (hf j p hj).2
          · cases hj
      · cases h
    · cases h
  · cases h
def vload (P : Program) (H : List (Nat × ABlk)) (t : TypeId) : SV → Option SV
  | .ref id off => match lk id H with
    | some (.box cs) => match tagg P t with
      | some false => cs[off]?
      | some true => match pvs H (cs.drop off) with
        | some ps => rdc P t ps
        | none => none
      | none => none
    | _ => none
  | .cref cs => rdc P t cs
  | .aref es id g i off => match lk id H with
    | some (.arr _ es' g' _ xs) => if es = es' ∧ g = g' then match xs[i]? with
      | some cs => rdc P t (cs.drop off)
      | none => none
      else none
    | _ => none
  | _ => none
theorem add_mk (b o j : Nat) : (⟨b, o, none⟩ : Addr).add j = ⟨b, o + j, none⟩ := by
  unfold Addr.add
  split
  · subst_vars; rfl
  · rfl
theorem vload_ok {nx I φ H w} (h : RH nx I φ H w) {t : TypeId} {sv x : SV} {v : Value} (hv : vload P H t x = some sv) (hs : Srel I φ w x v) : ∃ u, (Instr.loadAt t v).run P w = .ok u w ∧ Srel I φ w sv u := by
  have key : ∀ {a : Addr}, v = .pointer (some a) → (∃ u, (loadVar t a).run P w = .ok u w ∧ Srel I φ w sv u) → ∃ u, (Instr.loadAt t v).run P w = .ok u w ∧ Srel I φ w sv u := by
    rintro a rfl ⟨u, hu, hs⟩
    exact ⟨u, by simp [Instr.loadAt, Instr.sureAddr, hu], hs⟩
  cases x with
  | ref id off =>
    simp only [vload] at hv
    split at hv
    · rename_i cs hl
      obtain ⟨b, c, t', vs, h1, h2, h3, h4⟩ := h.blk _ _ hl
      cases hs with
      | ref _ _ b' c' h1' =>
        rw [h1] at h1'; cases h1'
        refine key rfl ?_
        split at hv
        · rename_i hg
          obtain ⟨u, hu, hs⟩ := h4 off sv hv
          exact ⟨u, run_loadVar_one hg (by simp [World.cell?, h2, hu]), hs⟩
        · split at hv
          · rename_i ps hps
            obtain ⟨hlen, hall⟩ := pvs_ok (vs := vs.toList.drop off) h hps (fun j sv hj => by
              rw [List.getElem?_drop] at hj
              obtain ⟨u, hu, hs⟩ := h4 _ _ hj
              exact ⟨u, by rw [List.getElem?_drop]; simpa using hu, hs⟩)
            refine rdc_ok hv fun j p hj => ?_
            obtain ⟨u, hu, hr⟩ := hall j p hj
            rw [List.getElem?_drop] at hu
            refine ⟨u, ?_, hr⟩
            rw [add_mk]
            simpa [World.cell?, h2] using hu
          · cases hv
        · cases hv
    · cases hv
  | cref cs =>
    cases hs with
    | cref _ a u κ hi hc hr => exact key rfl (rdc_ok hv fun j p hj => ⟨u j, hc j p hj, hr j p hj⟩)
  | aref es id g i off =>
    simp only [vload] at hv
    split at hv
    · rename_i t' es' g' frz xs hl
      split at hv
      · rename_i hc
        obtain ⟨rfl, rfl⟩ := hc
        split at hv
        · rename_i cs hx
          obtain ⟨h0, hes, hb⟩ := h.blk _ _ hl
          cases hs with
          | aref _ _ _ _ _ b' c' h1' =>
            rcases hb with ⟨h1, _⟩ | ⟨b, c, vs, h1, h2, h3, h4, h5, h6, h7⟩
            · rw [h1] at h1'; cases h1'
            · rw [h1] at h1'; cases h1'
              refine key rfl (rdc_ok hv fun j p hj => ?_)
              rw [List.getElem?_drop] at hj
              obtain ⟨u, hu, hr⟩ := h6 i (off + j) p (by simp [get2, hx, hj])
              refine ⟨u, ?_, hr⟩
              rw [add_mk]
              simp only [World.cell?, h2]
              rw [← hu]
              simp [Nat.add_assoc]
        · cases hv
      · cases hv
    · cases hv
  | _ => simp [vload] at hv
end Go.Vc
/- Part E: operations that leave memory as it is, carried out. -/
namespace Go.Vc
open Go.RowKit
variable {P : Program} {n0 : Nat} {r : Option Nat}
/-- An operation on two plain values. -/
def vbin (P : Program) (t : TypeId) (op : BinOp) : Value → Value → Option Value
  | .int k a, .int k' b => if k = k' then match op with
      | .add => some (.int k (k.wrap (a + b)))
      | .sub => some (.int k (k.wrap (a - b)))
      | .mul => some (.int k (k.wrap (a * b)))
      | .quo => if b = 0 then none else some (.int k (k.wrap (a.tdiv b)))
      | .rem => if b = 0 then none else some (.int k (a.tmod b))
      | .eql => some (.bool (decide (a = b)))
      | .neq => some (.bool (decide (a ≠ b)))
      | .lss => some (.bool (decide (a < b)))
      | .leq => some (.bool (decide (a ≤ b)))
      | .gtr => some (.bool (decide (a > b)))
      | .geq => some (.bool (decide (a ≥ b)))
      | .shl => if b < 0 then none else some (.int k (k.wrap (a * 2 ^ (min b.toNat k.bits))))
      | .shr => if b < 0 then none else some (.int k (a.fdiv (2 ^ (min b.toNat k.bits))))
      | .and => some (.int k (k.wrap ((BitVec.ofInt k.bits a &&& BitVec.ofInt k.bits b).toNat)))
      | _ => none
    else none
  | .string a, .string b => match op with
      | .add => if a.size + b.size ≤ 9223372036854775807 then some (.string (a ++ b)) else none
      | .eql => some (.bool (decide (a = b)))
      | .neq => some (.bool (decide (a ≠ b)))
      | .lss => some (.bool (Op.bytesLess a.toList b.toList))
      | .leq => some (.bool (Op.bytesLess a.toList b.toList || decide (a = b)))
      | .gtr => some (.bool (!(Op.bytesLess a.toList b.toList || decide (a = b))))
      | .geq => some (.bool (!Op.bytesLess a.toList b.toList))
      | _ => none
  | .bool a, .bool b => if tbool P t then match op with
      | .eql => some (.bool (decide (a = b)))
      | .neq => some (.bool (decide (a ≠ b)))
      | _ => none
    else none
  | _, _ => none
theorem toList_inj {a b : ByteArray} (h : a.toList = b.toList) : a = b := by
  rw [ByteArray.toList_eq, ByteArray.toList_eq] at h
  exact ByteArray.ext (Array.toList_inj.1 h)
theorem run_equal_bool {t : TypeId} (hu : P.underlying t = some .bool) (a b : Bool) (w : World) : (Op.equal t (.bool a) (.bool b)).run P w = .ok (a == b) w := by
  show (Op.equalIn (9999 + 1) t (.bool a) (.bool b)).run P w = _
  rw [Op.equalIn]
  simp [run_und hu]
theorem beq_toList (a b : ByteArray) : (a.toList == b.toList) = decide (a = b) := by
  by_cases h : a = b
  · subst h; simp
  · rw [decide_eq_false h, beq_eq_false_iff_ne]
    exact fun h' => h (toList_inj h')
theorem beq_dec (a b : Int) : (a == b) = decide (a = b) := by by_cases h : a = b <;> simp [h]
theorem vbin_ok {t : TypeId} {op : BinOp} {x y : Operand} {a b v : Value} (h : vbin P t op a b = some v) (w : World) :
    ((do eqGuard op t x y a b; binOp op t a b : Sem Value)).run P w = .ok v w ∧ v.oneCell' = true := by
  have hg : (eqGuard op t x y a b).run P w = .ok () w := by
    unfold eqGuard
    cases a <;> cases b <;> first | (simp [vbin] at h; done) | (cases op <;> rfl)
  rw [Sem.run_bind, hg, Result.andThen_ok]
  cases a <;> cases b <;> first | (simp [vbin] at h; done) | skip
  · rename_i a b
    simp only [vbin] at h
    split at h
    · rename_i hb
      have hu : P.underlying t = some .bool := by unfold tbool at hb; split at hb <;> simp_all
      cases op <;> simp only [Option.some.injEq, reduceCtorEq] at h <;> subst h <;> refine ⟨?_, rfl⟩ <;>
        (unfold binOp; simp only [Sem.run_bind, run_equal_bool hu, Result.andThen_ok, Sem.run_pure]; cases a <;> cases b <;> rfl)
    · cases h
  · rename_i k a k' b
    simp only [vbin] at h
    split at h
    · rename_i hk
      subst hk
      cases op <;> simp only [Option.some.injEq, reduceCtorEq, Option.ite_none_left_eq_some] at h <;> (first | subst h | (obtain ⟨hne, h⟩ := h; subst h)) <;> refine ⟨?_, rfl⟩ <;>
        simp_all [binOp, Op.intArith, Op.intCmp, Op.intDiv, Op.shift, Op.intBits, bne, beq_dec] <;> omega
    · cases h
  · rename_i a b
    simp only [vbin] at h
    cases op <;> simp only [Option.some.injEq, reduceCtorEq, Option.ite_none_right_eq_some] at h <;> (first | subst h | (obtain ⟨hne, h⟩ := h; subst h)) <;> refine ⟨?_, rfl⟩ <;>
      simp [binOp, Op.stringOp, beq_toList]
    have : (IntKind.i64.max : Int) = 9223372036854775807 := by decide
    omega
def litOf : SV → Option Value
  | .pv (.lit v) => some v
  | _ => none
theorem litOf_ok {I φ w sv u v} (h : litOf sv = some u) (hs : Srel I φ w sv v) : v = u ∧ u.oneCell' = true := by
  cases sv with
  | pv p => cases p with
    | lit x => simp only [litOf, Option.some.injEq] at h; subst h; exact ⟨hs.lit_inv, hs.lit_one⟩
    | sl => cases h
  | _ => cases h
def capsOf (st : St) : List Operand → Option (List (Nat × Nat))
  | [] => some []
  | x :: l => match st.ev x, capsOf st l with
    | some (.ref id off), some r => some ((id, off) :: r)
    | _, _ => none
/-- The element of a slice at a place, as an address. -/
def vindex (P : Program) (t : TypeId) (i : Int) : SV → Option SV
  | .pv (.sl es xs) => match (tel P t).bind (tsz P) with
    | some n => if n = es ∧ 0 ≤ i then (xs[i.toNat]?).map .cref else none
    | none => none
  | .loc es id g off len => match (tel P t).bind (tsz P) with
    | some n => if n = es ∧ 0 ≤ i ∧ i < len then some (.aref es id g (off + i.toNat) 0) else none
    | none => none
  | .ref id off => match tarr P t with
    | some (n, e) => match tsz P e with
      | some k => if 0 ≤ i ∧ i < n then some (.ref id (off + i.toNat * k)) else none
      | none => none
    | none => none
  | .cref cs => match tarr P t with
    | some (n, e) => match tsz P e with
      | some k => if 0 ≤ i ∧ i < n then some (.cref (cs.drop (i.toNat * k))) else none
      | none => none
    | none => none
  | _ => none
def vfield (o : Nat) : SV → Option SV
  | .ref id off => some (.ref id (off + o))
  | .cref cs => some (.cref (cs.drop o))
  | .aref es id g i off => some (.aref es id g i (off + o))
  | _ => none
def vlen (P : Program) (H : List (Nat × ABlk)) (t : TypeId) : SV → Option Int
  | .pv (.sl _ xs) => if (tel P t).isSome then some xs.length else none
  | .pv (.lit (.slice none 0 0)) => if (tel P t).isSome then some 0 else none
  | .pv (.lit (.string s)) => if tstr P t then some s.size else none
  | .loc _ _ _ _ len => if (tel P t).isSome then some len else none
  | .mp id => match P.underlying t, lk id H with
    | some (.map _ _), some (.map _ es) => some es.length
    | _, _ => none
  | _ => none
def vbuiltin (P : Program) (st : St) (b : Builtin) (args : List Operand) (ts : List TypeId) : Option SV := match b, args with
  | .len, [x] => match ts, st.ev x with
    | [t], some v => (vlen P st.h t v).map fun n => .pv (.lit (.int .i64 n))
    | _, _ => none
  | .max, [x, y] => match (st.ev x).bind litOf, (st.ev y).bind litOf with
    | some (.int k a), some (.int _ b) => some (.pv (.lit (.int k (if b > a then b else a))))
    | _, _ => none
  | .min, [x, y] => match (st.ev x).bind litOf, (st.ev y).bind litOf with
    | some (.int k a), some (.int _ b) => some (.pv (.lit (.int k (if b < a then b else a))))
    | _, _ => none
  | _, _ => none
def vop (P : Program) (st : St) : Op → Option SV
  | .move x => st.ev x
  | .assign x => st.ev x
  | .pick c a b => match (st.ev c).bind litOf, st.ev a, st.ev b with
    | some (.bool k), some x, some y => some (if k then x else y)
    | _, _, _ => none
  | .load t x => (st.ev x).bind (vload P st.h t)
  | .nilCheck x => match st.ev x with
    | some (.ref id off) => some (.ref id off)
    | some (.cref cs) => some (.cref cs)
    | some (.aref es id g i off) => some (.aref es id g i off)
    | some (.clos f caps) => some (.clos f caps)
    | _ => none
  | .binOp op t x y _ => match (st.ev x).bind litOf, (st.ev y).bind litOf with
    | some a, some b => (vbin P t op a b).map fun v => .pv (.lit v)
    | _, _ => none
  | .unOp op _ x => match op, (st.ev x).bind litOf with
    | .not, some (.bool b) => some (.pv (.lit (.bool !b)))
    | .neg, some (.int k n) => some (.pv (.lit (.int k (k.wrap (0 - n)))))
    | _, _ => none
  | .convert s d x => match tint P s, tint P d, (st.ev x).bind litOf with
    | some _, some k, some (.int _ n) => some (.pv (.lit (.int k (k.wrap n))))
    | _, _, _ => none
  | .makeFunc fn first caps => match fn, first.toList with
    | .func f, [] => (capsOf st caps.toList).map (.clos f)
    | _, _ => none
  | .fieldAddr s x f => match st.ev x, foff P s f with
    | some v, some o => vfield o v
    | _, _ => none
  | .indexAddr t x i => match st.ev x, (st.ev i).bind litOf with
    | some v, some (.int _ n) => vindex P t n v
    | _, _ => none
  | .extract x i => match st.ev x with
    | some (.tup vs) => vs[i]?
    | _ => none
  | .call c => match c.callee with
    | .builtin b => vbuiltin P st b c.args.toList c.argTypes.toList
    | _ => none
  | _ => none
theorem capsOf_ok {I φ st a w} (h : R I φ st a w) : ∀ {l : List Operand} {cs}, capsOf st l = some cs → cs.length = l.length ∧
    ∀ (j : Nat) (q : Nat × Nat), cs[j]? = some q → ∃ b c, φ q.1 0 = some (some (b, c)) ∧ (l.map a.eval)[j]? = some (.pointer (some ⟨b, q.2, none⟩))
  | [], cs, hl => by
    simp only [capsOf, Option.some.injEq] at hl
    subst hl
    exact ⟨rfl, fun j q hj => by simp at hj⟩
  | x :: l, cs, hl => by
    simp only [capsOf] at hl
    split at hl
    · rename_i id off rest h1 h2
      injection hl with hl
      subst hl
      obtain ⟨h3, h4⟩ := capsOf_ok h h2
      refine ⟨by simp [h3], fun j q hj => ?_⟩
      cases j with
      | zero =>
        simp only [List.getElem?_cons_zero, Option.some.injEq] at hj
        subst hj
        have := ev_ok h h1
        generalize he : a.eval x = v at this
        cases this with
        | ref _ _ b c hφ => exact ⟨b, c, hφ, by simp [he]⟩
      | succ j => simpa using h4 j q (by simpa using hj)
    · cases hl
theorem run_indexAt {t e : TypeId} {k : Nat} {kl : IntKind} {i : Int} {A : Option Addr} {n c : Nat} (ht : tel P t = some e) (hs : tsz P e = some k) (h0 : 0 ≤ i) (h1 : i < n) {ad : Addr} (hA : A = some ad) (w : World) :
    (Instr.indexAt t (.slice A n c) (.int kl i)).run P w = .ok (.pointer (some (ad.add (i.toNat * k)))) w := by
  subst hA
  simp [Instr.indexAt, asIntOf, run_und (und_tel ht), run_tsz hs, h0, h1]
theorem vindex_ok {I φ w t kl i x v sv} (h : vindex P t i x = some sv) (hs : Srel I φ w x v) : ∃ u, (Instr.indexAt t v (.int kl i)).run P w = .ok u w ∧ Srel I φ w sv u := by
  cases x with
  | pv p =>
    cases p with
    | lit => cases h
    | sl es xs =>
      simp only [vindex] at h
      split at h
      · rename_i n hn
        split at h
        · rename_i hc
          obtain ⟨rfl, h0⟩ := hc
          obtain ⟨cs, hcs, rfl⟩ := Option.map_eq_some_iff.1 h
          obtain ⟨e, he, hsz⟩ := Option.bind_eq_some_iff.1 hn
          cases hs with
          | pv _ _ hr =>
            cases hr with
            | sl _ _ A m c u hm hc hmax hA hes hcell hrep =>
              have hlt : i.toNat < xs.length := by
                rcases Nat.lt_or_ge i.toNat xs.length with h | h
                · exact h
                · rw [List.getElem?_eq_none h] at hcs; cases hcs
              obtain ⟨ad, rfl, hI⟩ := hA (by omega)
              refine ⟨_, run_indexAt he hsz h0 (by omega) rfl w, .cref cs _ (fun j => u i.toNat j) _ (by rw [block_add]; exact hI) (fun j p hj => ?_) fun j p hj => hrep _ _ _ (by simp [get2, hcs, hj])⟩
              have := hcell ad i.toNat j p rfl (by simp [get2, hcs, hj])
              rw [← this]
              congr 1
              unfold Addr.add
              by_cases a1 : i.toNat * n = 0 <;> by_cases a2 : j = 0 <;> simp_all [Nat.add_assoc]
        · cases h
      · cases h
  | loc es id g off len =>
    simp only [vindex] at h
    split at h
    · rename_i n hn
      split at h
      · rename_i hc
        obtain ⟨rfl, h0, hlt⟩ := hc
        injection h with h
        subst h
        obtain ⟨e, he, hsz⟩ := Option.bind_eq_some_iff.1 hn
        cases hs with
        | locNil => simp at hlt; omega
        | loc _ _ _ _ _ b c A hφ hl hc hA =>
          refine ⟨_, run_indexAt he hsz h0 hlt (hA (.inl (by omega))) w, ?_⟩
          rw [add_mk, ← Nat.add_mul]
          exact .aref _ _ _ _ _ b c hφ
      · cases h
    · cases h
  | ref id off =>
    simp only [vindex] at h
    split at h
    · rename_i n e ht
      split at h
      · rename_i k hk
        split at h
        · rename_i hc
          injection h with h
          subst h
          have hu : P.underlying t = some (.array n e) := by
            unfold tarr at ht
            split at ht
            · rename_i h'; simp only [Option.some.injEq, Prod.mk.injEq] at ht; obtain ⟨rfl, rfl⟩ := ht; exact h'
            · cases ht
          cases hs with
          | ref _ _ b c hφ =>
            refine ⟨.pointer (some ⟨b, off + i.toNat * k, none⟩), ?_, .ref _ _ b c hφ⟩
            simp [Instr.indexAt, asIntOf, run_und hu, run_tsz hk, hc.1, hc.2, Instr.sureAddr, add_mk]
        · cases h
      · cases h
    · cases h
  | cref cs =>
    simp only [vindex] at h
    split at h
    · rename_i n e ht
      split at h
      · rename_i k hk
        split at h
        · rename_i hc
          injection h with h
          subst h
          have hu : P.underlying t = some (.array n e) := by
            unfold tarr at ht
            split at ht
            · rename_i h'; simp only [Option.some.injEq, Prod.mk.injEq] at ht; obtain ⟨rfl, rfl⟩ := ht; exact h'
            · cases ht
          cases hs with
          | cref _ a u κ hI hcc hr =>
            refine ⟨.pointer (some (a.add (i.toNat * k))), by simp [Instr.indexAt, asIntOf, run_und hu, run_tsz hk, hc.1, hc.2, Instr.sureAddr], ?_⟩
            refine .cref _ _ (fun j => u (i.toNat * k + j)) κ (by rw [block_add]; exact hI) (fun j p hj => ?_) fun j p hj => hr _ _ (by rwa [List.getElem?_drop] at hj)
            rw [List.getElem?_drop] at hj
            rw [← hcc _ _ hj]
            congr 1
            unfold Addr.add
            by_cases a1 : i.toNat * k = 0 <;> by_cases a2 : j = 0 <;> simp_all [Nat.add_assoc]
        · cases h
      · cases h
    · cases h
  | _ => cases h
theorem vfield_ok {I φ w s f o x v sv} (hf : foff P s f = some o) (h : vfield o x = some sv) (hs : Srel I φ w x v) : ∃ u, (Instr.fieldAt s v f).run P w = .ok u w ∧ Srel I φ w sv u := by
  have key : ∀ {a : Addr}, v = .pointer (some a) → (Instr.fieldAt s v f).run P w = .ok (.pointer (some (a.add o))) w := by
    rintro a rfl
    unfold foff at hf
    split at hf
    · rename_i fs hu
      split at hf
      · rename_i fd hfd
        split at hf
        · rename_i n hn
          injection hf with hf
          subst hf
          simp [Instr.fieldAt, run_und hu, hfd, Instr.sureAddr, fieldPlace, run_tsz hn]
        · cases hf
      · cases hf
    · cases hf
  cases x with
  | ref id off =>
    simp only [vfield, Option.some.injEq] at h
    subst h
    cases hs with
    | ref _ _ b c hφ => exact ⟨_, key rfl, by rw [add_mk]; exact .ref _ _ b c hφ⟩
  | cref cs =>
    simp only [vfield, Option.some.injEq] at h
    subst h
    cases hs with
    | cref _ a u κ hI hc hr =>
      refine ⟨_, key rfl, .cref _ _ (fun j => u (o + j)) κ (by rw [block_add]; exact hI) (fun j p hj => ?_) fun j p hj => hr _ _ (by rwa [List.getElem?_drop] at hj)⟩
      rw [List.getElem?_drop] at hj
      rw [← hc _ _ hj]
      congr 1
      unfold Addr.add
      by_cases a1 : o = 0 <;> by_cases a2 : j = 0 <;> simp_all [Nat.add_assoc]
  | aref es id g i off =>
    simp only [vfield, Option.some.injEq] at h
    subst h
    cases hs with
    | aref _ _ _ _ _ b c hφ => exact ⟨_, key rfl, by rw [add_mk, Nat.add_assoc]; exact .aref _ _ _ _ _ b c hφ⟩
  | _ => cases h
theorem vlen_ok {nx I φ H w} (hR : RH nx I φ H w) {t ty n x v} (h : vlen P H t x = some n) (hs : Srel I φ w x v) : (Builtin.len_ #[t] ty #[v]).run P w = .ok (.int .i64 n) w := by
  have hslice : ∀ {A : Option Addr} {m c : Nat}, (tel P t).isSome = true → v = .slice A m c → (Builtin.len_ #[t] ty #[v]).run P w = .ok (.int .i64 m) w := by
    rintro A m c hT rfl
    obtain ⟨e, he⟩ := Option.isSome_iff_exists.1 hT
    simp [Builtin.len_, run_und (und_tel he), goInt]
  unfold vlen at h
  split at h
  · split at h
    · injection h with h
      subst h
      cases hs with
      | pv _ _ hr => cases hr with | sl _ _ A m c u hm => subst hm; exact hslice ‹_› rfl
    · cases h
  · split at h
    · injection h with h
      subst h
      exact hslice ‹_› hs.lit_inv
    · cases h
  · split at h
    · rename_i hT
      injection h with h
      subst h
      obtain rfl := hs.lit_inv
      have hu : P.underlying t = some .string := by unfold tstr at hT; split at hT <;> simp_all
      simp [Builtin.len_, run_und hu, goInt]
    · cases h
  · split at h
    · injection h with h
      subst h
      cases hs with
      | locNil => exact hslice ‹_› rfl
      | loc => exact hslice ‹_› rfl
    · cases h
  · split at h
    · rename_i kt et ck es hu hl
      injection h with h
      subst h
      obtain ⟨b, c, ents, h1, h2, h3, _⟩ := hR.blk _ _ hl
      cases hs with
      | mp _ b' c' h1' =>
        rw [h1] at h1'; cases h1'
        simp [Builtin.len_, run_und hu, goInt, getObj, Sem.run, h2, h3]
    · cases h
  · cases h
theorem vop_ok {I φ st a w} (hR : R I φ st a w) {o : Oper} {sv : SV} (h : vop P st o.op = some sv) : ∃ v, (execOp a.eval o).run P w = .ok (.value v) w ∧ Srel I φ w sv v := by
  unfold execOp
  cases ho : o.op with
  | move x => rw [ho] at h; exact ⟨_, rfl, ev_ok hR h⟩
  | assign x => rw [ho] at h; exact ⟨_, rfl, ev_ok hR h⟩
  | pick c x y =>
    rw [ho] at h
    simp only [vop] at h
    split at h
    · rename_i k sx sy h1 h2 h3
      injection h with h
      subst h
      obtain ⟨sc, hc, hl⟩ := Option.bind_eq_some_iff.1 h1
      obtain ⟨e, _⟩ := litOf_ok hl (ev_ok hR hc)
      refine ⟨if k then a.eval x else a.eval y, by simp [e, asBool], ?_⟩
      cases k
      · exact ev_ok hR h3
      · exact ev_ok hR h2
    · cases h
  | load t x =>
    rw [ho] at h
    obtain ⟨sx, hx, hv⟩ := Option.bind_eq_some_iff.1 h
    obtain ⟨u, hu, hs⟩ := vload_ok hR.rh hv (ev_ok hR hx)
    exact ⟨u, by simp [hu], hs⟩
  | nilCheck x =>
    rw [ho] at h
    simp only [vop] at h
    split at h
    · rename_i id off hx
      injection h with h
      subst h
      have := ev_ok hR hx
      generalize he : a.eval x = v at this
      cases this with | ref _ _ b c hφ => exact ⟨_, by simp only [he]; rfl, .ref _ _ b c hφ⟩
    · rename_i cs hx
      injection h with h
      subst h
      have := ev_ok hR hx
      generalize he : a.eval x = v at this
      cases this with | cref _ b u _ h1 h2 h3 => exact ⟨_, by simp only [he]; rfl, .cref _ b u _ h1 h2 h3⟩
    · rename_i es id g i off hx
      injection h with h
      subst h
      have := ev_ok hR hx
      generalize he : a.eval x = v at this
      cases this with | aref _ _ _ _ _ b c hφ => exact ⟨_, by simp only [he]; rfl, .aref _ _ _ _ _ b c hφ⟩
    · rename_i f caps hx
      injection h with h
      subst h
      have := ev_ok hR hx
      generalize he : a.eval x = v at this
      cases this with | clos _ _ vs h1 h2 => exact ⟨_, by simp only [he]; rfl, .clos _ _ vs h1 h2⟩
    · cases h
  | binOp op t x y yt =>
    rw [ho] at h
    simp only [vop] at h
    split at h
    · rename_i u v h1 h2
      obtain ⟨sx, hx, hlx⟩ := Option.bind_eq_some_iff.1 h1
      obtain ⟨sy, hy, hly⟩ := Option.bind_eq_some_iff.1 h2
      obtain ⟨ex, _⟩ := litOf_ok hlx (ev_ok hR hx)
      obtain ⟨ey, _⟩ := litOf_ok hly (ev_ok hR hy)
      obtain ⟨q, hq, rfl⟩ := Option.map_eq_some_iff.1 h
      obtain ⟨hrun, hone⟩ := vbin_ok (x := x) (y := y) hq w
      refine ⟨q, ?_, .pv _ _ (.lit _ hone)⟩
      simp only [ex, ey]
      rw [Sem.run_bind, hrun]
      rfl
    · cases h
  | unOp op t x =>
    rw [ho] at h
    simp only [vop] at h
    split at h
    · rename_i b h1
      injection h with h
      subst h
      obtain ⟨sx, hx, hlx⟩ := Option.bind_eq_some_iff.1 h1
      obtain ⟨ex, _⟩ := litOf_ok hlx (ev_ok hR hx)
      exact ⟨.bool !b, by simp [ex, Op.unary], .pv _ _ (.lit _ rfl)⟩
    · rename_i k n h1
      injection h with h
      subst h
      obtain ⟨sx, hx, hlx⟩ := Option.bind_eq_some_iff.1 h1
      obtain ⟨ex, _⟩ := litOf_ok hlx (ev_ok hR hx)
      exact ⟨.int k (k.wrap (0 - n)), by simp [ex, Op.unary, Op.intArith], .pv _ _ (.lit _ rfl)⟩
    · cases h
  | convert s d x =>
    rw [ho] at h
    simp only [vop] at h
    split at h
    · rename_i k0 k k' n h0 h1 h2
      injection h with h
      subst h
      obtain ⟨sx, hx, hlx⟩ := Option.bind_eq_some_iff.1 h2
      obtain ⟨ex, _⟩ := litOf_ok hlx (ev_ok hR hx)
      have hu : P.underlying d = some (.int k) := by unfold tint at h1; split at h1 <;> simp_all
      refine ⟨.int k (k.wrap n), ?_, .pv _ _ (.lit _ rfl)⟩
      have hus : P.underlying s = some (.int k0) := by unfold tint at h0; split at h0 <;> simp_all
      simp [ex, convert, run_und hu, run_und hus, Conv.intToInt]
    · cases h
  | makeFunc fn first caps =>
    rw [ho] at h
    simp only [vop] at h
    split at h
    · rename_i f hf
      obtain ⟨cs, hcs, rfl⟩ := Option.map_eq_some_iff.1 h
      obtain ⟨h1, h2⟩ := capsOf_ok hR hcs
      have : first = #[] := by apply Array.ext'; simpa using hf
      subst this
      refine ⟨.func (.func f) #[] (caps.toList.map a.eval).toArray, ?_, .clos f cs _ (by simpa using h1.symm) h2⟩
      simp [Instr.makeFunc]
      apply Array.ext'
      simp
    · cases h
  | fieldAddr s x f =>
    rw [ho] at h
    simp only [vop] at h
    split at h
    · rename_i sx o' hx hfo
      obtain ⟨u, hu, hs⟩ := vfield_ok hfo h (ev_ok hR hx)
      exact ⟨u, by simp [hu], hs⟩
    · cases h
  | indexAddr t x i =>
    rw [ho] at h
    simp only [vop] at h
    split at h
    · rename_i sx k n hx h2
      obtain ⟨si, hi, hli⟩ := Option.bind_eq_some_iff.1 h2
      obtain ⟨ei, _⟩ := litOf_ok hli (ev_ok hR hi)
      obtain ⟨u, hu, hs⟩ := vindex_ok (kl := k) h (ev_ok hR hx)
      exact ⟨u, by simp [ei, hu], hs⟩
    · cases h
  | extract x i =>
    rw [ho] at h
    simp only [vop] at h
    split at h
    · rename_i vs hx
      have := ev_ok hR hx
      generalize he : a.eval x = v at this
      cases this with
      | tup _ us hl hall =>
        have hlt : i < us.length := by
          rcases Nat.lt_or_ge i vs.length with h' | h'
          · omega
          · rw [List.getElem?_eq_none h'] at h; cases h
        have hu : us[i]? = some us[i] := List.getElem?_eq_getElem hlt
        exact ⟨us[i], by simp [Instr.extract, hlt, he], hall i _ _ h hu⟩
    · cases h
  | call c =>
    rw [ho] at h
    obtain ⟨callee, args, argTypes⟩ := c
    simp only [vop] at h
    cases callee with
    | builtin b =>
      simp only [vbuiltin] at h
      split at h
      · rename_i x hargs
        have : args = #[x] := by apply Array.ext'; simpa using hargs
        subst this
        split at h
        · rename_i t sx hts hx
          have : argTypes = #[t] := by apply Array.ext'; simpa using hts
          subst this
          obtain ⟨n, hn, rfl⟩ := Option.map_eq_some_iff.1 h
          have := vlen_ok (P := P) (ty := o.type) hR.rh hn (ev_ok hR hx)
          refine ⟨.int .i64 n, ?_, .pv _ _ (.lit _ rfl)⟩
          simp [resolve, invoke, builtin, this]
        · cases h
      · rename_i x y hargs
        have : args = #[x, y] := by apply Array.ext'; simpa using hargs
        subst this
        split at h
        · rename_i k n k' m h1 h2
          injection h with h
          subst h
          obtain ⟨sx, hx, hlx⟩ := Option.bind_eq_some_iff.1 h1
          obtain ⟨sy, hy, hly⟩ := Option.bind_eq_some_iff.1 h2
          obtain ⟨ex, _⟩ := litOf_ok hlx (ev_ok hR hx)
          obtain ⟨ey, _⟩ := litOf_ok hly (ev_ok hR hy)
          refine ⟨_, ?_, .pv _ _ (.lit (.int k (if m > n then m else n)) rfl)⟩
          simp [resolve, invoke, builtin, ex, ey, Builtin.max_, Builtin.max2]
        · cases h
      · rename_i x y hargs
        have : args = #[x, y] := by apply Array.ext'; simpa using hargs
        subst this
        split at h
        · rename_i k n k' m h1 h2
          injection h with h
          subst h
          obtain ⟨sx, hx, hlx⟩ := Option.bind_eq_some_iff.1 h1
          obtain ⟨sy, hy, hly⟩ := Option.bind_eq_some_iff.1 h2
          obtain ⟨ex, _⟩ := litOf_ok hlx (ev_ok hR hx)
          obtain ⟨ey, _⟩ := litOf_ok hly (ev_ok hR hy)
          refine ⟨_, ?_, .pv _ _ (.lit (.int k (if m < n then m else n)) rfl)⟩
          simp [resolve, invoke, builtin, ex, ey, Builtin.min_, Builtin.min2]
        · cases h
      · cases h
    | _ => cases h
  | _ => rw [ho] at h; simp [vop] at h
end Go.Vc
/- Part F: operations that make memory or write it. -/
namespace Go.Vc
open Go.RowKit
variable {P : Program} {n0 : Nat} {r : Option Nat}
theorem mblk_congr {φ φ' : Phi} {i : Nat} (h : φ' i = φ i) (blk : ABlk) : mblk φ' i blk = mblk φ i blk := by
  cases blk with
  | arr t es g frz xs => cases frz <;> simp [mblk, h]
  | _ => simp [mblk, h]
/-- A value operation. -/
theorem pwo_val {o : Oper} {sv : SV} {K : St → Prop} {st : St} (hv : vop P st o.op = some sv) (hf : st.fits o.dst = true) (hK : K (st.put o.dst sv)) : PWo P n0 r o K st := by
  intro I φ a w b hR hn hr hrb next Q' hq
  obtain ⟨v, hrun, hs⟩ := vop_ok hR hv
  refine ⟨fun _ _ => trivial, ?_⟩
  rw [Oper.semAt_eq _ _ _ (fun d hd => by rw [hd] at hv; simp [vop] at hv), hrun, Oper.uponIn_value]
  refine hq _ _ ⟨_, I, φ, hK, hR.put hf hs, by cases o.dst <;> exact hn, ?_⟩
  have : (st.put o.dst sv).h = st.h := by cases o.dst <;> rfl
  rw [this]
  exact Ev.refl
/-- What an operation owes in general. -/
theorem pwo_run {o : Oper} {K : St → Prop} {st : St} (hd : ∀ c, o.op ≠ .defer c)
    (h : ∀ I φ a w, R I φ st a w → n0 ≤ st.nx → ∃ x w', (execOp a.eval o).run P w = .ok x w' ∧ ((∃ v, x = .value v ∧ Kp n0 K I φ st.h w (a.put o.dst v) w') ∨ (x = .skip ∧ Kp n0 K I φ st.h w (a.put o.dst undef) w'))) : PWo P n0 r o K st := by
  intro I φ a w b hR hn hr hrb next Q' hq
  obtain ⟨x, w', hrun, hk⟩ := h I φ a w hR hn
  refine ⟨fun _ _ => trivial, ?_⟩
  rw [Oper.semAt_eq _ _ _ hd, hrun]
  rcases hk with ⟨v, rfl, hk⟩ | ⟨rfl, hk⟩
  · rw [Oper.uponIn_value]; exact hq _ _ hk
  · rw [Oper.uponIn_skip]; exact hq _ _ hk
def St.new (st : St) (blk : ABlk) : St := { st with nx := st.nx + 1, h := (st.nx, blk) :: st.h }
def St.upd (st : St) (i : Nat) (blk : ABlk) : St := { st with h := hset i blk st.h }
def phiNew (φ : Phi) (n : Nat) (x : Option (Nat × Nat)) : Phi := fun i g => if i = n ∧ g = 0 then some x else φ i g
theorem phiNew_same {φ : Phi} {n : Nat} {x} : phiNew φ n x n 0 = some x := by simp [phiNew]
theorem phiNew_other {φ : Phi} {n i : Nat} {x} (h : i ≠ n) : phiNew φ n x i = φ i := by funext g; simp [phiNew, h]
theorem R.phi_none {I φ st a w} (h : R I φ st a w) (g : Nat) : φ st.nx g = none := by
  cases hx : φ st.nx g with
  | none => rfl
  | some x => exact absurd (h.rh.dom _ _ _ hx) (Nat.lt_irrefl _)
theorem Brel.defd {I φ w i blk} (h : Brel I φ w i blk) : ∃ g x, φ i g = some x := by
  cases blk with
  | box cs => obtain ⟨b, c, t, vs, h1, _⟩ := h; exact ⟨_, _, h1⟩
  | arr t es g frz xs =>
    obtain ⟨_, _, h⟩ := h
    rcases h with ⟨h1, _⟩ | ⟨b, c, vs, h1, _⟩ <;> exact ⟨_, _, h1⟩
  | dfr op => obtain ⟨b, c, h1, _⟩ := h; exact ⟨_, _, h1⟩
  | lrec n s st pend ps assign body d => obtain ⟨b, c, fn, tms, bd, cd, h1, _⟩ := h; exact ⟨_, _, h1⟩
  | map clock es => obtain ⟨b, c, ents, h1, _⟩ := h; exact ⟨_, _, h1⟩
  | mit m since seen last => obtain ⟨b, c, bm, cm, h1, _⟩ := h; exact ⟨_, _, h1⟩
theorem RH.lt {nx I φ H w} (h : RH nx I φ H w) {i : Nat} {blk : ABlk} (hl : lk i H = some blk) : i < nx := by
  obtain ⟨g, x, hx⟩ := (h.blk i blk hl).defd
  exact h.dom _ _ _ hx
/-- A new block. -/
theorem R.new {I φ st a w} (h : R I φ st a w) (hn : n0 ≤ st.nx) {w' : World} {blk : ABlk} {x : Option (Nat × Nat)}
    (hw : w'.os = w.os ∧ w'.tape = w.tape ∧ w'.output = w.output ∧ w.drawn ≤ w'.drawn ∧ w.heap.size ≤ w'.heap.size) (hold : ∀ b, b < w.heap.size → w'.heap[b]? = w.heap[b]?)
    (hB : Brel I (phiNew φ st.nx x) w' st.nx blk) (hgen : blk.gen = 0) (hm : ∀ b, mblk (phiNew φ st.nx x) st.nx blk = some b → w.heap.size ≤ b ∧ b < w'.heap.size) :
    R I (phiNew φ st.nx x) (st.new blk) a w' ∧ Ev n0 I φ st.h w I (phiNew φ st.nx x) (st.new blk).h w' ∧ n0 ≤ (st.new blk).nx := by
  have hφ : ∀ i g y, φ i g = some y → phiNew φ st.nx x i g = some y := fun i g y hy => by
    have := h.rh.dom _ _ _ hy
    rw [phiNew_other (by omega)]; exact hy
  have hother : ∀ i blk', i ≠ st.nx → mblk (phiNew φ st.nx x) i blk' = mblk φ i blk' := fun i blk' hi => mblk_congr (phiNew_other hi) blk'
  have hlk : ∀ i blk', lk i (st.new blk).h = some blk' → (i = st.nx ∧ blk' = blk) ∨ (i ≠ st.nx ∧ lk i st.h = some blk') := fun i blk' hl => by
    simp only [St.new, lk] at hl
    by_cases e : st.nx = i
    · rw [if_pos e] at hl; injection hl with hl; exact .inl ⟨e.symm, hl.symm⟩
    · rw [if_neg e] at hl; exact .inr ⟨fun e' => e e'.symm, hl⟩
  have hmu : ∀ i blk' b, lk i (st.new blk).h = some blk' → mblk (phiNew φ st.nx x) i blk' = some b → (i = st.nx ∧ blk' = blk ∧ w.heap.size ≤ b ∧ b < w'.heap.size) ∨ (i ≠ st.nx ∧ lk i st.h = some blk' ∧ mblk φ i blk' = some b) := fun i blk' b hl hmb => by
    rcases hlk i blk' hl with ⟨rfl, rfl⟩ | ⟨h1, h2⟩
    · exact .inl ⟨rfl, rfl, hm b hmb⟩
    · exact .inr ⟨h1, h2, by rwa [hother i blk' h1] at hmb⟩
  refine ⟨⟨⟨fun b κ hb => Nat.lt_of_lt_of_le (h.rh.ilt b κ hb) hw.2.2.2.2, fun i g y hy => ?_, fun i blk' hl => ?_, fun i blk' g y hl hy => ?_, fun i blk' b hl hmb => ?_, fun i j bi bj b hi hj hbi hbj => ?_⟩, h.size,
      fun t sv hl => (h.slot t sv hl).mono (fun b κ hb => hold b (h.rh.ilt b κ hb)) (fun _ _ h => h) hφ, h.dlen, fun k i hk => ?_⟩, ⟨hw.1, hw.2.1, hw.2.2.1, hw.2.2.2.1, hw.2.2.2.2, fun _ _ h => h, fun b hb _ => hold b hb, fun b hb => ?_, fun _ _ h => .inl h, fun i g y _ hy => hφ i g y hy, fun i hi _ => phiNew_other (by omega), fun i hi hl => ?_⟩, Nat.le_succ_of_le hn⟩
  · simp only [phiNew] at hy
    split at hy
    · rename_i hc; simp [St.new, hc.1]
    · have := h.rh.dom _ _ _ hy; simp [St.new]; omega
  · rcases hlk i blk' hl with ⟨rfl, rfl⟩ | ⟨h1, h2⟩
    · exact hB
    · exact (h.rh.blk i blk' h2).mono (fun b κ hb => hold b (h.rh.ilt b κ hb)) (fun _ _ h => h) hφ fun b hb => hold b (h.rh.mlt i blk' b h2 hb).1
  · rcases hlk i blk' hl with ⟨rfl, rfl⟩ | ⟨h1, h2⟩
    · simp only [phiNew] at hy
      split at hy
      · rename_i hc; omega
      · rw [h.phi_none] at hy; cases hy
    · rw [phiNew_other h1] at hy; exact h.rh.gen i blk' g y h2 hy
  · rcases hmu i blk' b hl hmb with ⟨_, _, h1, h2⟩ | ⟨_, h1, h2⟩
    · exact ⟨h2, fun κ hI => by have := h.rh.ilt b κ hI; omega⟩
    · have := h.rh.mlt i blk' b h1 h2; exact ⟨by omega, this.2⟩
  · rcases hmu i bi b hi hbi with ⟨e1, _, h1, _⟩ | ⟨_, h1, h2⟩ <;> rcases hmu j bj b hj hbj with ⟨e2, _, k1, _⟩ | ⟨_, k1, k2⟩
    · omega
    · have := (h.rh.mlt j bj b k1 k2).1; omega
    · have := (h.rh.mlt i bi b h1 h2).1; omega
    · exact h.rh.inj i j bi bj b h1 k1 h2 k2
  · obtain ⟨b, c, h1, h2⟩ := h.dmark k i hk
    exact ⟨b, c, hφ _ _ _ h1, h2⟩
  · obtain ⟨i, blk', hl, hmb⟩ := hb
    rcases hmu i blk' b hl hmb with ⟨_, _, h1, _⟩ | ⟨_, h1, h2⟩
    · exact .inr h1
    · exact .inl ⟨i, blk', h1, h2⟩
  · simp only [St.new, lk]
    rw [if_neg (by omega)]
    exact hl
/-- A named block is written. -/
theorem R.upd {I φ st a w} (h : R I φ st a w) {w' : World} {i b : Nat} {blk blk' : ABlk} (hl : lk i st.h = some blk) (hmb : mblk φ i blk = some b)
    (hw : w'.os = w.os ∧ w'.tape = w.tape ∧ w'.output = w.output ∧ w.drawn ≤ w'.drawn ∧ w'.heap.size = w.heap.size) (hold : ∀ k, k ≠ b → w'.heap[k]? = w.heap[k]?)
    (hB : Brel I φ w' i blk') (hgen : blk'.gen = blk.gen) (hmb' : mblk φ i blk' = some b) : R I φ (st.upd i blk') a w' ∧ Ev n0 I φ st.h w I φ (st.upd i blk').h w' := by
  have hnI : ∀ k κ, I k κ → k ≠ b := fun k κ hk e => (h.rh.mlt i blk b hl hmb).2 κ (e ▸ hk)
  have hI : ∀ k κ, I k κ → w'.heap[k]? = w.heap[k]? := fun k κ hk => hold k (hnI k κ hk)
  have hlk : ∀ j bj, lk j (st.upd i blk').h = some bj → (j = i ∧ bj = blk') ∨ (j ≠ i ∧ lk j st.h = some bj) := fun j bj hj => by
    simp only [St.upd] at hj
    by_cases e : j = i
    · subst e; rw [lk_hset_same hl] at hj; injection hj with hj; exact .inl ⟨rfl, hj.symm⟩
    · rw [lk_hset_other e] at hj; exact .inr ⟨e, hj⟩
  have hmu : ∀ j bj k, lk j (st.upd i blk').h = some bj → mblk φ j bj = some k → ∃ bj', lk j st.h = some bj' ∧ mblk φ j bj' = some k := fun j bj k hj hm => by
    rcases hlk j bj hj with ⟨rfl, rfl⟩ | ⟨_, h2⟩
    · exact ⟨blk, hl, by rw [hmb, ← hmb', hm]⟩
    · exact ⟨bj, h2, hm⟩
  refine ⟨⟨⟨fun k κ hk => by have := h.rh.ilt k κ hk; omega, h.rh.dom, fun j bj hj => ?_, fun j bj g y hj hy => ?_, fun j bj k hj hm => ?_, fun j k bj bk b' hj hk h1 h2 => ?_⟩, h.size,
    fun t sv ht => (h.slot t sv ht).mono hI (fun _ _ h => h) fun _ _ _ h => h, h.dlen, h.dmark⟩, ⟨hw.1, hw.2.1, hw.2.2.1, hw.2.2.2.1, by omega, fun _ _ h => h, fun k hk hm => hold k fun e => hm ⟨i, blk, hl, e ▸ hmb⟩, fun k hk => ?_, fun _ _ h => .inl h, fun _ _ _ _ h => h, fun _ _ _ => rfl, fun j hj hn => ?_⟩⟩
  · rcases hlk j bj hj with ⟨rfl, rfl⟩ | ⟨h1, h2⟩
    · exact hB
    · exact (h.rh.blk j bj h2).mono hI (fun _ _ h => h) (fun _ _ _ h => h) fun k hk => hold k fun e => h1 (h.rh.inj j i bj blk b h2 hl (e ▸ hk) hmb)
  · rcases hlk j bj hj with ⟨rfl, rfl⟩ | ⟨h1, h2⟩
    · rw [hgen]; exact h.rh.gen _ _ g y hl hy
    · exact h.rh.gen j bj g y h2 hy
  · obtain ⟨bj', h1, h2⟩ := hmu j bj k hj hm
    have := h.rh.mlt j bj' k h1 h2
    exact ⟨by omega, this.2⟩
  · obtain ⟨bj', c1, c2⟩ := hmu j bj b' hj h1
    obtain ⟨bk', d1, d2⟩ := hmu k bk b' hk h2
    exact h.rh.inj j k bj' bk' b' c1 d1 c2 d2
  · obtain ⟨j, bj, h1, h2⟩ := hk
    obtain ⟨bj', c1, c2⟩ := hmu j bj k h1 h2
    exact .inl ⟨j, bj', c1, c2⟩
  · simp only [St.upd]
    rw [lk_hset_other (fun e => by subst e; rw [hl] at hn; cases hn)]
    exact hn
/-- An array is written no more. -/
def St.frz (st : St) (id : Nat) : St := match lk id st.h with
  | some (.arr t es g _ xs) => st.upd id (.arr t es g true xs)
  | _ => st
theorem R.frz {I φ st a w} (h : R I φ st a w) (id : Nat) : ∃ I', R I' φ (st.frz id) a w ∧ Ev n0 I φ st.h w I' φ (st.frz id).h w := by
  unfold St.frz
  split
  · rename_i t es g frz xs hl
    have hB := h.rh.blk _ _ hl
    obtain ⟨I', hI'⟩ : ∃ I' : Nat → Nat → Prop, I' = fun k κ => I k κ ∨ (κ = es ∧ ∃ c, φ id g = some (some (k, c))) := ⟨_, rfl⟩
    have hup : ∀ k κ, I k κ → I' k κ := fun k κ hk => by rw [hI']; exact .inl hk
    have hdown : ∀ k κ, I' k κ → I k κ ∨ (frz = false ∧ mblk φ id (.arr t es g frz xs) = some k) := fun k κ hk => by
      rw [hI'] at hk
      rcases hk with hk | ⟨rfl, c, hk⟩
      · exact .inl hk
      · cases frz with
        | false => exact .inr ⟨rfl, by simp [mblk, hk]⟩
        | true =>
          obtain ⟨_, _, hb⟩ := hB
          rcases hb with ⟨h1, _⟩ | ⟨b', c', vs, h1, _, _, _, _, _, h7⟩
          · rw [h1] at hk; cases hk
          · rw [h1] at hk; cases hk; exact .inl (h7 rfl)
    have hlk : ∀ j bj, lk j (st.upd id (.arr t es g true xs)).h = some bj → (j = id ∧ bj = .arr t es g true xs) ∨ (j ≠ id ∧ lk j st.h = some bj) := fun j bj hj => by
      simp only [St.upd] at hj
      by_cases e : j = id
      · subst e; rw [lk_hset_same hl] at hj; injection hj with hj; exact .inl ⟨rfl, hj.symm⟩
      · rw [lk_hset_other e] at hj; exact .inr ⟨e, hj⟩
    have hmu : ∀ j bj k, lk j (st.upd id (.arr t es g true xs)).h = some bj → mblk φ j bj = some k → j ≠ id ∧ lk j st.h = some bj := fun j bj k hj hm => by
      rcases hlk j bj hj with ⟨rfl, rfl⟩ | h2
      · simp [mblk] at hm
      · exact h2
    refine ⟨I', ⟨⟨fun k κ hk => ?_, h.rh.dom, fun j bj hj => ?_, fun j bj g' y hj hy => ?_, fun j bj k hj hm => ?_, fun j k bj bk b' hj hk h1 h2 => ?_⟩, h.size,
      fun t sv ht => (h.slot t sv ht).mono (fun _ _ _ => rfl) hup fun _ _ _ h => h, h.dlen, h.dmark⟩, ⟨rfl, rfl, rfl, Nat.le_refl _, Nat.le_refl _, hup, fun _ _ _ => rfl, fun k hk => ?_, fun k κ hk => ?_, fun _ _ _ _ h => h, fun _ _ _ => rfl, fun j hj hn => ?_⟩⟩
    · rcases hdown k κ hk with h1 | ⟨_, h1⟩
      · exact h.rh.ilt k _ h1
      · exact (h.rh.mlt _ _ k hl h1).1
    · rcases hlk j bj hj with ⟨rfl, rfl⟩ | ⟨h1, h2⟩
      · obtain ⟨h0, hx, hb⟩ := hB
        refine ⟨h0, hx, ?_⟩
        rcases hb with hb | ⟨b, c, vs, c1, c2, c3, c4, c5, c6, c7⟩
        · exact .inl hb
        · refine .inr ⟨b, c, vs, c1, c2, c3, c4, c5, fun k j p hp => ?_, fun _ => by rw [hI']; exact .inr ⟨rfl, c, c1⟩⟩
          obtain ⟨u, hu, hr⟩ := c6 k j p hp
          exact ⟨u, hu, hr.mono (fun _ _ _ => rfl) hup⟩
      · exact (h.rh.blk j bj h2).mono (fun _ _ _ => rfl) hup (fun _ _ _ h => h) fun _ _ => rfl
    · rcases hlk j bj hj with ⟨rfl, rfl⟩ | ⟨h1, h2⟩
      · have hq := h.rh.gen _ _ g' y hl hy
        exact hq
      · exact h.rh.gen j bj g' y h2 hy
    · obtain ⟨h1, h2⟩ := hmu j bj k hj hm
      have := h.rh.mlt j bj k h2 hm
      refine ⟨this.1, fun κ hk => ?_⟩
      rcases hdown k κ hk with h3 | ⟨_, h3⟩
      · exact this.2 κ h3
      · exact h1 (h.rh.inj j id bj _ k h2 hl hm h3)
    · exact h.rh.inj j k bj bk b' (hmu j bj b' hj h1).2 (hmu k bk b' hk h2).2 h1 h2
    · obtain ⟨j, bj, h1, h2⟩ := hk
      exact .inl ⟨j, bj, (hmu j bj k h1 h2).2, h2⟩
    · rcases hdown k κ hk with h1 | ⟨_, h1⟩
      · exact .inl h1
      · exact .inr (.inl ⟨id, _, hl, h1⟩)
    · simp only [St.upd]
      rw [lk_hset_other (fun e => by subst e; rw [hl] at hn; cases hn)]
      exact hn
  · exact ⟨I, h, Ev.refl⟩
theorem St.frz_nx (st : St) (id : Nat) : (st.frz id).nx = st.nx := by unfold St.frz; split <;> rfl
theorem St.frz_s (st : St) (id : Nat) : (st.frz id).s = st.s := by unfold St.frz; split <;> rfl
theorem ent_frz (st : St) (id : Nat) : Ent n0 st (st.frz id) := fun I φ a w hR hn => by
  obtain ⟨I', h1, h2⟩ := hR.frz (n0 := n0) id
  exact ⟨I', φ, h1, by rw [St.frz_nx]; exact hn, h2⟩
/-- The arrays among some values are written no more. -/
def St.frzs (st : St) : List SV → St
  | [] => st
  | .loc _ id _ _ _ :: l => (st.frz id).frzs l
  | _ :: l => st.frzs l
theorem ent_frzs : ∀ (l : List SV) (st : St), Ent n0 st (st.frzs l)
  | [], st => Ent.refl st
  | v :: l, st => by
    cases v with
    | loc es id g off len => exact (ent_frz st id).trans (ent_frzs l _)
    | _ => exact ent_frzs l st
theorem PWo.ent {o : Oper} {K : St → Prop} {st st' : St} (he : Ent n0 st st') (h : PWo P n0 r o K st') : PWo P n0 r o K st := fun I φ a w b hR hn hr hb next Q' hq => by
  obtain ⟨I1, φ1, r1, n1, e1⟩ := he I φ a w hR hn
  exact h I1 φ1 a w b r1 n1 hr (rnd_ev e1 hr hb) next Q' fun a' w' k => hq a' w' (Kp.trans e1 k)
end Go.Vc
/- Part G: boxes, stores, literals. -/
namespace Go.Vc
open Go.RowKit
variable {P : Program} {n0 : Nat} {r : Option Nat}
/-- The cells of a value. -/
def svCells : SV → Option (List SV)
  | .agg cs => some (cs.map .pv)
  | .tup _ => none
  | v => some [v]
theorem srel_one {I φ w sv v} (hs : Srel I φ w sv v) (h1 : ∀ cs, sv ≠ .agg cs) (h2 : ∀ vs, sv ≠ .tup vs) : v.oneCell' = true := by
  cases hs with
  | pv p v h => exact h.oneCell
  | agg cs => exact absurd rfl (h1 cs)
  | tup vs => exact absurd rfl (h2 vs)
  | _ => rfl
theorem svCells_ok {I φ w sv v l} (h : svCells sv = some l) (hs : Srel I φ w sv v) : v.cells.size = l.length ∧ (∀ u ∈ v.cells.toList, u.oneCell' = true) ∧ ∀ (j : Nat) s, l[j]? = some s → ∃ u, v.cells[j]? = some u ∧ Srel I φ w s u := by
  by_cases ha : ∃ cs, sv = .agg cs
  · obtain ⟨cs, rfl⟩ := ha
    simp only [svCells, Option.some.injEq] at h
    subst h
    cases hs with
    | agg _ vs hl hall =>
      have key : ∀ (j : Nat) (u : Value), vs[j]? = some u → ∃ p, cs[j]? = some p ∧ Rep I w p u := fun j u hu => by
        have hlt : j < vs.length := by
          rcases Nat.lt_or_ge j vs.length with h' | h'
          · exact h'
          · rw [List.getElem?_eq_none h'] at hu; cases hu
        have hp : cs[j]? = some cs[j] := List.getElem?_eq_getElem (by omega)
        exact ⟨_, hp, hall j _ _ hp hu⟩
      refine ⟨by simp [Value.cells, hl], fun u hu => ?_, fun j s hj => ?_⟩
      · obtain ⟨j, hj⟩ := List.mem_iff_getElem?.1 (show u ∈ vs by simpa [Value.cells] using hu)
        obtain ⟨p, _, hr⟩ := key j u hj
        exact hr.oneCell
      · rw [List.getElem?_map] at hj
        obtain ⟨p, hp, rfl⟩ := Option.map_eq_some_iff.1 hj
        have hlt : j < cs.length := by
          rcases Nat.lt_or_ge j cs.length with h' | h'
          · exact h'
          · rw [List.getElem?_eq_none h'] at hp; cases hp
        have hu : vs[j]? = some vs[j] := List.getElem?_eq_getElem (by omega)
        exact ⟨vs[j], by simp [Value.cells], .pv _ _ (hall j _ _ hp hu)⟩
  · by_cases ht : ∃ vs, sv = .tup vs
    · obtain ⟨vs, rfl⟩ := ht; simp [svCells] at h
    · have h1 := srel_one hs (fun cs e => ha ⟨cs, e⟩) (fun vs e => ht ⟨vs, e⟩)
      have hl : l = [sv] := by
        cases sv <;> first | exact absurd ⟨_, rfl⟩ ha | exact absurd ⟨_, rfl⟩ ht | (simp only [svCells, Option.some.injEq] at h; exact h.symm)
      have hc : v.cells = #[v] := by cases v <;> first | rfl | simp [Value.oneCell'] at h1
      subst hl
      rw [hc]
      refine ⟨rfl, fun u hu => by simp at hu; subst hu; exact h1, fun j s hj => ?_⟩
      cases j with
      | zero => simp at hj; subst hj; exact ⟨v, rfl, hs⟩
      | succ j => simp at hj
theorem brel_box {I φ} {w : World} {n : Nat} {l : List SV} {cs : Array Value} {t : TypeId} (hc : cs.size = l.length) (hs : ∀ (j : Nat) s, l[j]? = some s → ∃ u, cs[j]? = some u ∧ Srel I φ w s u)
    (hφ : ∀ i g y, φ i g = some y → phiNew φ n (some (w.heap.size, 1)) i g = some y) (hlt : ∀ b κ, I b κ → b < w.heap.size) :
    Brel I (phiNew φ n (some (w.heap.size, 1))) (w.alloc (.cells cs t)) n (.box l) := by
  refine ⟨w.heap.size, 1, t, cs, phiNew_same, World.alloc_heap_new w _, hc, fun j s hj => ?_⟩
  obtain ⟨u, hu, h⟩ := hs j s hj
  exact ⟨u, hu, h.mono (fun b κ hb => Below.heap_alloc w _ b (hlt b κ hb)) (fun _ _ h => h) hφ⟩
theorem phiNew_ext {I φ st a w} (h : R I φ st a w) {x} : ∀ i g y, φ i g = some y → phiNew φ st.nx x i g = some y := fun i g y hy => by
  have := h.rh.dom _ _ _ hy
  rw [phiNew_other (by omega)]; exact hy
theorem fits_new (st : St) (b : ABlk) (d : Option Nat) : (st.new b).fits d = st.fits d := by cases d <;> rfl
/-- 'box': a new variable with a value. -/
theorem pwo_box {o : Oper} {t : TypeId} {x : Operand} {sv : SV} {l : List SV} {K : St → Prop} {st : St} (ho : o.op = .box t x) (hx : st.ev x = some sv) (hl : svCells sv = some l) (hf : st.fits o.dst = true)
    (hK : K ((st.new (.box l)).put o.dst (.ref st.nx 0))) : PWo P n0 r o K st := by
  refine pwo_run (fun c hc => by rw [ho] at hc; cases hc) fun I φ a w hR hn => ?_
  obtain ⟨h1, _, h3⟩ := svCells_ok hl (ev_ok hR hx)
  have hnew := hR.new (n0 := n0) hn (w' := w.alloc (.cells (a.eval x).cells t)) (blk := .box l) (x := some (w.heap.size, 1)) ⟨rfl, rfl, rfl, Nat.le_refl _, by simp⟩ (fun b hb => Below.heap_alloc w _ b hb)
    (brel_box h1 h3 (phiNew_ext hR) hR.rh.ilt) rfl (fun b hb => by simp only [mblk, phiNew_same, Option.bind_some, id, Option.map_some, Option.some.injEq] at hb; subst hb; simp)
  refine ⟨.value (.pointer (some ⟨w.heap.size, 0, none⟩)), w.alloc (.cells (a.eval x).cells t), ?_, .inl ⟨_, rfl, _, I, _, hK, hnew.1.put (by rw [fits_new]; exact hf) (.ref _ _ _ _ phiNew_same), by cases o.dst <;> exact hnew.2.2, ?_⟩⟩
  · unfold execOp
    simp [ho, Instr.box, newVar, newRow]
  · have : ((st.new (.box l)).put o.dst (.ref st.nx 0)).h = (st.new (.box l)).h := by cases o.dst <;> rfl
    rw [this]
    exact hnew.2.1
/-- A type's zero value, its cells. -/
def tzero (P : Program) (t : TypeId) : Option (List Value) := (P.info? t).bind fun i => i.zero.bind fun z => if z.cells.toList.all (·.oneCell') then some z.cells.toList else none
theorem run_tzero {t : TypeId} {l : List Value} (h : tzero P t = some l) (w : World) : ∃ z, (zeroValue t).run P w = .ok z w ∧ z.cells = l.toArray ∧ ∀ v ∈ l, v.oneCell' = true := by
  obtain ⟨i, hi, h⟩ := Option.bind_eq_some_iff.1 h
  obtain ⟨z, hz, h⟩ := Option.bind_eq_some_iff.1 h
  split at h
  · rename_i hall
    injection h with h
    subst h
    exact ⟨z, by simp [zeroValue, typeInfo, hi, hz], by simp, fun v hv => List.all_eq_true.1 hall v hv⟩
  · cases h
/-- 'alloc': a new variable, zero. -/
theorem pwo_alloc {o : Oper} {t : TypeId} {l : List Value} {K : St → Prop} {st : St} (ho : o.op = .alloc t) (hz : tzero P t = some l) (hf : st.fits o.dst = true)
    (hK : K ((st.new (.box (l.map fun v => .pv (.lit v)))).put o.dst (.ref st.nx 0))) : PWo P n0 r o K st := by
  refine pwo_run (fun c hc => by rw [ho] at hc; cases hc) fun I φ a w hR hn => ?_
  obtain ⟨z, hrun, hcells, hone⟩ := run_tzero hz w
  have hnew := hR.new (n0 := n0) hn (w' := w.alloc (.cells z.cells t)) (blk := .box (l.map fun v => .pv (.lit v))) (x := some (w.heap.size, 1)) ⟨rfl, rfl, rfl, Nat.le_refl _, by simp⟩ (fun b hb => Below.heap_alloc w _ b hb)
    (brel_box (by simp [hcells]) (fun j s hj => by
      rw [List.getElem?_map] at hj
      obtain ⟨v, hv, rfl⟩ := Option.map_eq_some_iff.1 hj
      exact ⟨v, by simp [hcells, hv], .pv _ _ (.lit _ (hone v (List.mem_of_getElem? hv)))⟩) (phiNew_ext hR) hR.rh.ilt) rfl (fun b hb => by simp only [mblk, phiNew_same, Option.bind_some, id, Option.map_some, Option.some.injEq] at hb; subst hb; simp)
  refine ⟨.value (.pointer (some ⟨w.heap.size, 0, none⟩)), w.alloc (.cells z.cells t), ?_, .inl ⟨_, rfl, _, I, _, hK, hnew.1.put (by rw [fits_new]; exact hf) (.ref _ _ _ _ phiNew_same), by cases o.dst <;> exact hnew.2.2, ?_⟩⟩
  · unfold execOp
    simp [ho, Instr.alloc, newVar, newRow, hrun]
  · have : ((st.new (.box (l.map fun v => .pv (.lit v)))).put o.dst (.ref st.nx 0)).h = (st.new (.box (l.map fun v => .pv (.lit v)))).h := by cases o.dst <;> rfl
    rw [this]
    exact hnew.2.1
/-- A list with some elements written over, from a place on. -/
def splice {β : Type} : List β → Nat → List β → List β
  | l, _, [] => l
  | [], _, _ => []
  | _ :: l, 0, v :: vs => v :: splice l 0 vs
  | x :: l, i + 1, vs => x :: splice l i vs
theorem splice_length {β : Type} : ∀ (l : List β) (i : Nat) (vs : List β), (splice l i vs).length = l.length
  | [], i, [] => by simp [splice]
  | [], i, v :: vs => by simp [splice]
  | x :: l, 0, [] => by simp [splice]
  | x :: l, i + 1, [] => by simp [splice]
  | x :: l, 0, v :: vs => by simp [splice, splice_length l 0 vs]
  | x :: l, i + 1, v :: vs => by simp [splice, splice_length l i (v :: vs)]
theorem splice_get {β : Type} : ∀ (l : List β) (i : Nat) (vs : List β), i + vs.length ≤ l.length → ∀ j, (splice l i vs)[j]? = if i ≤ j ∧ j < i + vs.length then vs[j - i]? else l[j]?
  | [], i, [], h, j => by simp [splice]
  | [], i, v :: vs, h, j => by simp at h
  | x :: l, 0, [], h, j => by simp [splice]
  | x :: l, i + 1, [], h, j => by simp [splice]; intro h1 h2; omega
  | x :: l, 0, v :: vs, h, j => by
    simp only [splice]
    cases j with
    | zero => simp
    | succ j =>
      rw [List.getElem?_cons_succ, splice_get l 0 vs (by simp at h ⊢; omega)]
      simp
  | x :: l, i + 1, v :: vs, h, j => by
    simp only [splice]
    cases j with
    | zero => simp
    | succ j =>
      rw [List.getElem?_cons_succ, splice_get l i (v :: vs) (by simp at h ⊢; omega)]
      simp only [Nat.add_le_add_iff_right, List.getElem?_cons_succ]
      have : (j + 1 < i + 1 + (v :: vs).length) ↔ (j < i + (v :: vs).length) := by omega
      simp only [this, Nat.add_sub_add_right]
theorem take_app_drop_get (cur vs : List Value) (o : Nat) (h : o + vs.length ≤ cur.length) (j : Nat) : (cur.take o ++ vs ++ cur.drop (o + vs.length))[j]? = if o ≤ j ∧ j < o + vs.length then vs[j - o]? else cur[j]? := by
  have hlen : (cur.take o ++ vs).length = o + vs.length := by simp; omega
  by_cases h1 : j < o
  · rw [if_neg (by omega), List.getElem?_append_left (by omega), List.getElem?_append_left (by simp; omega), List.getElem?_take, if_pos h1]
  · by_cases h2 : j < o + vs.length
    · rw [if_pos ⟨by omega, h2⟩, List.getElem?_append_left (by omega), List.getElem?_append_right (by simp; omega)]
      congr 1
      simp
      omega
    · rw [if_neg (by omega), List.getElem?_append_right (by omega), List.getElem?_drop]
      congr 1
      omega
/-- A store of several cells at a place of a row. -/
theorem run_storeVar_at {ty : TypeId} {g o : Nat} {t : TypeId} {cur : Array Value} {v : Value} {w : World} (hg : w.heap[g]? = some (.cells cur t (0, 0))) (hsz : tsz P ty = some v.cells.size) (hle : o + v.cells.size ≤ cur.size)
    (h1 : ∀ u ∈ v.cells.toList, u.oneCell' = true) : ∃ w' cs, (storeVar ty ⟨g, o, none⟩ v).run P w = .ok () w' ∧ w'.os = w.os ∧ w'.tape = w.tape ∧ w'.output = w.output ∧ w'.heap.size = w.heap.size ∧ (∀ k, k ≠ g → w'.heap[k]? = w.heap[k]?) ∧
      w'.heap[g]? = some (.cells cs t (0, 0)) ∧ cs.size = cur.size ∧ ∀ j : Nat, cs[j]? = if o ≤ j ∧ j < o + v.cells.size then v.cells[j - o]? else cur[j]? := by
  have hrun := run_storeCells_at (P := P) g o t v.cells.toList 0 cur w hg (by simpa using hle) h1
  refine ⟨w.setRow g (cur.toList.take o ++ v.cells.toList ++ cur.toList.drop (o + v.cells.toList.length)).toArray, (cur.toList.take o ++ v.cells.toList ++ cur.toList.drop (o + v.cells.toList.length)).toArray, ?_, rfl, rfl, rfl, setRow_size _ _ _, fun k hk => setRow_other w g k _ hk, setRow_heap w g cur _ t _ hg, ?_, fun j => ?_⟩
  · unfold storeVar
    rw [Sem.run_bind, run_tsz hsz, Result.andThen_ok]
    simp only [ne_eq, not_true_eq_false, if_false]
    simpa using hrun
  · simp
    omega
  · rw [List.getElem?_toArray, take_app_drop_get _ _ _ (by simpa using hle)]
    simp
def topvs (H : List (Nat × ABlk)) (v : SV) : Option (List PV) := match v with
  | .agg cs => some cs
  | v => (toPV H v).map fun p => [p]
/-- 'store' into a variable. -/
theorem pwo_store {o : Oper} {t : TypeId} {x y : Operand} {id off : Nat} {sv : SV} {cs l : List SV} {K : St → Prop} {st : St} (ho : o.op = .store t x y) (hd : o.dst = none) (hx : st.ev x = some (.ref id off)) (hy : st.ev y = some sv)
    (hl : svCells sv = some l) (hb : lk id st.h = some (.box cs)) (hs : tsz P t = some l.length) (hle : off + l.length ≤ cs.length) (hK : K (st.upd id (.box (splice cs off l)))) : PWo P n0 r o K st := by
  refine pwo_run (fun c hc => by rw [ho] at hc; cases hc) fun I φ a w hR hn => ?_
  obtain ⟨h1, h2, h3⟩ := svCells_ok hl (ev_ok hR hy)
  obtain ⟨b, c, t', vs, e1, e2, e3, e4⟩ := hR.rh.blk _ _ hb
  have hptr : a.eval x = .pointer (some ⟨b, off, none⟩) := by
    have := ev_ok hR hx
    generalize a.eval x = v at this ⊢
    cases this with | ref _ _ b' c' h' => rw [e1] at h'; cases h'; rfl
  obtain ⟨w', cs', hrun, q1, q2, q3, q4, q5, q6, q7, q8⟩ := run_storeVar_at (P := P) (o := off) e2 (by rw [h1]; exact hs) (by omega) h2
  have hmb : mblk φ id (.box cs) = some b := by simp [mblk, e1]
  have hI : ∀ k κ, I k κ → w'.heap[k]? = w.heap[k]? := fun k κ hk => q5 k fun e => (hR.rh.mlt _ _ b hb hmb).2 κ (e ▸ hk)
  have hup := hR.upd (n0 := n0) (w' := w') (blk' := .box (splice cs off l)) hb hmb ⟨q1, q2, q3, run_drawn _ hrun, q4⟩ q5 ?_ rfl (by simp [mblk, e1])
  · refine ⟨.skip, w', ?_, .inr ⟨rfl, _, I, φ, hK, ?_, hn, hup.2⟩⟩
    · unfold execOp
      simp [ho, Instr.storeAt, hptr, Instr.sureAddr, hrun]
    · rw [hd]; exact hup.1
  · refine ⟨b, c, t', cs', e1, q6, by rw [q7, e3, splice_length], fun j s hj => ?_⟩
    rw [splice_get _ _ _ hle] at hj
    rw [q8, h1]
    split at hj
    · rename_i hc
      rw [if_pos hc]
      obtain ⟨u, hu, hs⟩ := h3 _ _ hj
      exact ⟨u, hu, hs.mono hI (fun _ _ h => h) fun _ _ _ h => h⟩
    · rename_i hc
      rw [if_neg hc]
      obtain ⟨u, hu, hs⟩ := e4 _ _ hj
      exact ⟨u, hu, hs.mono hI (fun _ _ h => h) fun _ _ _ h => h⟩
/-- 'store' into an array of one's own. -/
theorem pwo_storeA {o : Oper} {t : TypeId} {x y : Operand} {es id g i off ta : Nat} {sv : SV} {xs : List (List PV)} {el l : List PV} {K : St → Prop} {st : St} (ho : o.op = .store t x y) (hd : o.dst = none) (hx : st.ev x = some (.aref es id g i off)) (hy : st.ev y = some sv)
    (hl : topvs st.h sv = some l) (hb : lk id st.h = some (.arr ta es g false xs)) (hs : tsz P t = some l.length) (hel : xs[i]? = some el) (hle : off + l.length ≤ el.length) (hK : K (st.upd id (.arr ta es g false (xs.set i (splice el off l))))) : PWo P n0 r o K st := by
  refine pwo_run (fun c hc => by rw [ho] at hc; cases hc) fun I φ a w hR hn => ?_
  have hcells : (a.eval y).cells.size = l.length ∧ (∀ u ∈ (a.eval y).cells.toList, u.oneCell' = true) ∧ ∀ (j : Nat) p, l[j]? = some p → ∃ u, (a.eval y).cells[j]? = some u ∧ Rep I w p u := by
    have hsy := ev_ok hR hy
    by_cases ha : ∃ cs, sv = .agg cs
    · obtain ⟨cs, rfl⟩ := ha
      simp only [topvs, Option.some.injEq] at hl
      subst hl
      obtain ⟨h1, h2, h3⟩ := svCells_ok (l := cs.map .pv) rfl hsy
      refine ⟨by simpa using h1, h2, fun j p hj => ?_⟩
      obtain ⟨u, hu, hs⟩ := h3 j (.pv p) (by simp [hj])
      cases hs with | pv _ _ hr => exact ⟨u, hu, hr⟩
    · have hl' : (toPV st.h sv).map (fun p => [p]) = some l := by
        cases sv <;> first | exact absurd ⟨_, rfl⟩ ha | exact hl
      obtain ⟨p, hp, rfl⟩ := Option.map_eq_some_iff.1 hl'
      have hr := toPV_ok hR.rh hp hsy
      have h1 := hr.oneCell
      have hc : (a.eval y).cells = #[a.eval y] := by generalize a.eval y = v at h1 ⊢; cases v <;> first | rfl | simp [Value.oneCell'] at h1
      rw [hc]
      refine ⟨rfl, fun u hu => by simp at hu; subst hu; exact h1, fun j q hj => ?_⟩
      cases j with
      | zero => simp at hj; subst hj; exact ⟨_, rfl, hr⟩
      | succ j => simp at hj
  obtain ⟨h1, h2, h3⟩ := hcells
  obtain ⟨h0, hes, hB⟩ := hR.rh.blk _ _ hb
  rcases hB with ⟨_, rfl⟩ | ⟨b, c, vs, e1, e2, e3, e4, e5, e6, e7⟩
  · simp at hel
  have hi : i < xs.length := by
    rcases Nat.lt_or_ge i xs.length with h | h
    · exact h
    · rw [List.getElem?_eq_none h] at hel; cases hel
  have hell : el.length = es := hes el (List.mem_of_getElem? hel)
  have hptr : a.eval x = .pointer (some ⟨b, i * es + off, none⟩) := by
    have := ev_ok hR hx
    generalize a.eval x = v at this ⊢
    cases this with | aref _ _ _ _ _ b' c' h' => rw [e1] at h'; cases h'; rfl
  have hbd : i * es + off + l.length ≤ vs.size := by
    rw [e3]
    have : (i + 1) * es ≤ c * es := Nat.mul_le_mul_right _ (by omega)
    rw [Nat.add_mul] at this
    omega
  obtain ⟨w', cs', hrun, q1, q2, q3, q4, q5, q6, q7, q8⟩ := run_storeVar_at (P := P) (o := i * es + off) e2 (by rw [h1]; exact hs) (by omega) h2
  have hmb : mblk φ id (.arr ta es g false xs) = some b := by simp [mblk, e1]
  have hI : ∀ k κ, I k κ → w'.heap[k]? = w.heap[k]? := fun k κ hk => q5 k fun e => (hR.rh.mlt _ _ b hb hmb).2 κ (e ▸ hk)
  have hup := hR.upd (n0 := n0) (w' := w') (blk' := .arr ta es g false (xs.set i (splice el off l))) hb hmb ⟨q1, q2, q3, run_drawn _ hrun, q4⟩ q5 ?_ rfl (by simp [mblk, e1])
  · refine ⟨.skip, w', ?_, .inr ⟨rfl, _, I, φ, hK, ?_, hn, hup.2⟩⟩
    · unfold execOp
      simp [ho, Instr.storeAt, hptr, Instr.sureAddr, hrun]
    · rw [hd]; exact hup.1
  · refine ⟨h0, fun x hx => ?_, .inr ⟨b, c, cs', e1, q6, by rw [q7, e3], by simpa using e4, e5, fun k j p hp => ?_, by simp⟩⟩
    · rcases List.mem_or_eq_of_mem_set hx with hx | rfl
      · exact hes x hx
      · rw [splice_length, hell]
    · rw [q8, h1]
      by_cases hk : k = i
      · subst hk
        have hp' : (splice el off l)[j]? = some p := by simpa [get2, hi] using hp
        rw [splice_get _ _ _ hle] at hp'
        have hj : j < es := by
          rcases Nat.lt_or_ge j es with h | h
          · exact h
          · split at hp'
            · omega
            · rw [List.getElem?_eq_none (by omega)] at hp'; cases hp'
        split at hp'
        · rename_i hc
          rw [if_pos (by omega)]
          obtain ⟨u, hu, hr⟩ := h3 _ _ hp'
          exact ⟨u, by rw [← hu]; congr 1; omega, hr.mono hI fun _ _ h => h⟩
        · rename_i hc
          rw [if_neg (by omega)]
          obtain ⟨u, hu, hr⟩ := e6 k j p (by simp [get2, hel, hp'])
          exact ⟨u, hu, hr.mono hI fun _ _ h => h⟩
      · have hp' : get2 xs k j = some p := by
          unfold get2 at hp ⊢
          rwa [List.getElem?_set_ne (fun e => hk e.symm)] at hp
        have hj : j < es := by
          unfold get2 at hp'
          obtain ⟨y, hy, hyj⟩ := Option.bind_eq_some_iff.1 hp'
          have := hes y (List.mem_of_getElem? hy)
          rcases Nat.lt_or_ge j es with h | h
          · exact h
          · rw [List.getElem?_eq_none (by omega)] at hyj; cases hyj
        have hne : ¬ (i * es + off ≤ k * es + j ∧ k * es + j < i * es + off + l.length) := by
          rintro ⟨a1, a2⟩
          rcases Nat.lt_or_gt_of_ne hk with hlt | hgt
          · have : (k + 1) * es ≤ i * es := Nat.mul_le_mul_right _ hlt
            rw [Nat.add_mul] at this
            omega
          · have : (i + 1) * es ≤ k * es := Nat.mul_le_mul_right _ hgt
            rw [Nat.add_mul] at this
            omega
        rw [if_neg hne]
        obtain ⟨u, hu, hr⟩ := e6 k j p hp'
        exact ⟨u, hu, hr.mono hI fun _ _ h => h⟩
end Go.Vc
/- Part H: a function's contract from its body. -/
namespace Go.Vc
open Go.RowKit
variable {P : Program} {n0 : Nat} {r : Option Nat}
def argSlots : Nat → List SV → List (Nat × SV)
  | _, [] => []
  | i, v :: l => (i, v) :: argSlots (i + 1) l
theorem lk_argSlots : ∀ (l : List SV) (i t : Nat) (sv : SV), lk t (argSlots i l) = some sv → i ≤ t ∧ l[t - i]? = some sv
  | [], i, t, sv, h => by simp [argSlots, lk] at h
  | v :: l, i, t, sv, h => by
    simp only [argSlots, lk] at h
    by_cases e : i = t
    · subst e; simp at h; subst h; simp
    · rw [if_neg e] at h
      obtain ⟨h1, h2⟩ := lk_argSlots l (i + 1) t sv h
      refine ⟨by omega, ?_⟩
      rw [show t - i = (t - (i + 1)) + 1 by omega, List.getElem?_cons_succ]
      exact h2
def resOf (P : Program) (st : St) : ResultVar → Option SV
  | .tmp t => lk t st.s
  | .cell a t => (lk a st.s).bind fun x => match x with
    | .ref id off => vload P st.h t (.ref id off)
    | _ => none
def resL (P : Program) (st : St) : List ResultVar → Option (List SV)
  | [] => some []
  | x :: l => match resOf P st x, resL P st l with
    | some v, some vs => some (v :: vs)
    | _, _ => none
def wrapRes : List SV → SV
  | [v] => v
  | l => .tup l
/-- The marks of loops over functions, taken up at the return. -/
def shut : List Nat → List (Nat × ABlk) → Option (List (Nat × ABlk))
  | [], h => some h
  | i :: l, h => match lk i h with
    | some (.dfr true) => shut l (hset i (.dfr false) h)
    | _ => none
/-- A slice of an array that is written no more is a slice that reads. -/
def cv (H : List (Nat × ABlk)) (sv : SV) : SV := match sv with
  | .loc es id g off len => match toPV H (.loc es id g off len) with
    | some p => .pv p
    | none => .loc es id g off len
  | v => v
theorem cv_ok {nx I φ H w} (h : RH nx I φ H w) {sv : SV} {v : Value} (hs : Srel I φ w sv v) : Srel I φ w (cv H sv) v := by
  unfold cv
  split
  · split
    · rename_i p hp
      exact .pv _ _ (toPV_ok h hp hs)
    · exact hs
  · exact hs
theorem cv_wrap {nx I φ H w} (h : RH nx I φ H w) {svs : List SV} {v : Value} (hs : Srel I φ w (wrapRes svs) v) : Srel I φ w (wrapRes (svs.map (cv H))) v := by
  by_cases h1 : svs.length = 1
  · obtain ⟨s, rfl⟩ : ∃ s, svs = [s] := by
      cases svs with
      | nil => simp at h1
      | cons u t => cases t with
        | nil => exact ⟨u, rfl⟩
        | cons => simp at h1
    exact cv_ok h hs
  · have e : ∀ l : List SV, l.length ≠ 1 → wrapRes l = .tup l := fun l hl => by
      unfold wrapRes
      split
      · simp at hl
      · rfl
    rw [e _ h1] at hs
    rw [e _ (by simpa using h1)]
    cases hs with
    | tup _ vs hl hall =>
      refine .tup _ vs (by simpa using hl) fun j sv u hj hu => ?_
      rw [List.getElem?_map] at hj
      obtain ⟨s, hs, rfl⟩ := Option.map_eq_some_iff.1 hj
      exact cv_ok h (hall j s u hs hu)
/-- How a function's body may end. -/
def FinP (P : Program) (fn : Func) (nx : Nat) (Q : SV → Nat → List (Nat × ABlk) → Prop) (e : Exit) (st : St) : Prop :=
  (e = .normal ∨ e = .ret) ∧ ∃ st1, Ent nx st st1 ∧ ∃ h, shut st1.d st1.h = some h ∧ ∃ vs, resL P { st1 with h := h, d := [] } fn.results.toList = some vs ∧ Q (wrapRes (vs.map (cv h))) st1.nx h
def resSem (tmps : Array Value) (x : ResultVar) : Sem Value := match x with
  | .tmp t => pure (tmps.getD t undef)
  | .cell b t => do loadVar t (← asAddr (tmps.getD b undef))
theorem results_eq (fn : Func) (tmps : Array Value) : results fn tmps = (do let vs ← fn.results.mapM (resSem tmps); pure (if h : vs.size = 1 then vs[0] else .tuple vs)) := rfl
theorem resOf_ok {I φ st a w} (hR : R I φ st a w) {x : ResultVar} {sv : SV} (h : resOf P st x = some sv) :
    ∃ v, (resSem a.tmps x).run P w = .ok v w ∧ Srel I φ w sv v := by
  cases x with
  | tmp t => exact ⟨_, rfl, hR.slot t sv h⟩
  | cell b t =>
    simp only [resOf] at h
    obtain ⟨x, hx, h⟩ := Option.bind_eq_some_iff.1 h
    cases x with
    | ref id off =>
      have hs := hR.slot b _ hx
      obtain ⟨u, hu, hs'⟩ := vload_ok hR.rh h hs
      refine ⟨u, ?_, hs'⟩
      show (do loadVar t (← asAddr (a.tmps.getD b undef)) : Sem Value).run P w = _
      generalize a.tmps.getD b undef = v at hs hu
      cases hs with
      | ref _ _ b' c' _ => simpa [Instr.loadAt, Instr.sureAddr, asAddr] using hu
    | _ => cases h
theorem run_mapM {α : Type} (f : α → Sem Value) {w : World} : ∀ (l : List α) (vs : List Value), vs.length = l.length → (∀ (j : Nat) x v, l[j]? = some x → vs[j]? = some v → (f x).run P w = .ok v w) → (l.mapM f).run P w = .ok vs w
  | [], vs, hl, _ => by
    obtain rfl : vs = [] := List.eq_nil_of_length_eq_zero hl
    simp
  | x :: l, [], hl, _ => by simp at hl
  | x :: l, v :: vs, hl, h => by
    have h0 := h 0 x v rfl rfl
    have ih := run_mapM f l vs (by simpa using hl) fun j x v a b => h (j + 1) x v (by simpa using a) (by simpa using b)
    rw [List.mapM_cons]
    simp [h0, ih]
theorem resL_ok {I φ st a w} (hR : R I φ st a w) : ∀ {l : List ResultVar} {svs : List SV}, resL P st l = some svs → ∃ vs : List Value, vs.length = l.length ∧ svs.length = l.length ∧
    (∀ (j : Nat) x v, l[j]? = some x → vs[j]? = some v → (resSem a.tmps x).run P w = .ok v w) ∧
    ∀ (j : Nat) sv v, svs[j]? = some sv → vs[j]? = some v → Srel I φ w sv v
  | [], svs, h => by
    simp only [resL, Option.some.injEq] at h
    subst h
    exact ⟨[], rfl, rfl, fun j x v hj => by simp at hj, fun j sv v hj => by simp at hj⟩
  | x :: l, svs, h => by
    simp only [resL] at h
    split at h
    · rename_i v vs h1 h2
      injection h with h
      subst h
      obtain ⟨u, hu, hs⟩ := resOf_ok hR h1
      obtain ⟨us, g1, g2, g3, g4⟩ := resL_ok hR h2
      refine ⟨u :: us, by simp [g1], by simp [g2], fun j y z hj hz => ?_, fun j sv z hj hz => ?_⟩
      · cases j with
        | zero => simp only [List.getElem?_cons_zero, Option.some.injEq] at hj hz; subst hj hz; exact hu
        | succ j => exact g3 j y z (by simpa using hj) (by simpa using hz)
      · cases j with
        | zero => simp only [List.getElem?_cons_zero, Option.some.injEq] at hj hz; subst hj hz; exact hs
        | succ j => exact g4 j sv z (by simpa using hj) (by simpa using hz)
    · cases h
theorem run_results {I φ st a w} (hR : R I φ st a w) {fn : Func} {svs : List SV} (h : resL P st fn.results.toList = some svs) : ∃ v, (results fn a.tmps).run P w = .ok v w ∧ Srel I φ w (wrapRes svs) v := by
  obtain ⟨vs, g1, g2, g3, g4⟩ := resL_ok hR h
  have hm := run_mapM (P := P) (w := w) (resSem a.tmps) fn.results.toList vs g1 g3
  have hrun : (results fn a.tmps).run P w = .ok (if h : vs.toArray.size = 1 then vs.toArray[0] else .tuple vs.toArray) w := by
    rw [results_eq, ← Array.toArray_toList (xs := fn.results), List.mapM_toArray]
    simp only [Sem.run_bind, Sem.run_map, hm, Result.andThen_ok, Sem.run_pure]
  refine ⟨_, hrun, ?_⟩
  by_cases h1 : vs.length = 1
  · obtain ⟨u, rfl⟩ : ∃ u, vs = [u] := by
      cases vs with
      | nil => simp at h1
      | cons u t => cases t with
        | nil => exact ⟨u, rfl⟩
        | cons => simp at h1
    obtain ⟨s, rfl⟩ : ∃ s, svs = [s] := by
      have : svs.length = 1 := by omega
      cases svs with
      | nil => simp at this
      | cons u t => cases t with
        | nil => exact ⟨u, rfl⟩
        | cons => simp at this
    simpa [wrapRes] using g4 0 s u rfl rfl
  · have : wrapRes svs = .tup svs := by
      unfold wrapRes
      split
      · simp at g1 g2; omega
      · rfl
    rw [this]
    simp only [List.size_toArray, h1, dite_false]
    exact .tup _ _ (by omega) g4
theorem leaves_shut {fn : Func} {R' : Ending → World → Prop} : ∀ (d : List Nat) (st : St) (I : Nat → Nat → Prop) (φ : Phi) (a : Act) (w : World) (h : List (Nat × ABlk)) (svs : List SV), st.d = d → R I φ st a w → shut d st.h = some h →
    resL P { st with h := h, d := [] } fn.results.toList = some svs →
    (∀ v w' I' φ', RH st.nx I' φ' h w' → Srel I' φ' w' (wrapRes (svs.map (cv h))) v → Ev n0 I φ st.h w I' φ' h w' → R' (.returned v) w') → LeavesInM (FW none) 0 P fn a.tmps R' a.defers .returning w
  | [], st, I, φ, a, w, h, svs, hd, hR, hs, hres, hk => by
    simp only [shut, Option.some.injEq] at hs
    subst hs
    have ha : a.defers = [] := List.eq_nil_of_length_eq_zero (by rw [hR.dlen, hd]; rfl)
    rw [ha]
    have hR2 : R I φ { st with h := st.h, d := [] } a w := ⟨hR.rh, hR.size, hR.slot, by rw [ha]; rfl, fun k i hk => by simp at hk⟩
    obtain ⟨v, hrun, hs⟩ := run_results hR2 hres
    exact ⟨v, hrun, hk v w I φ hR.rh (cv_wrap hR.rh hs) Ev.refl⟩
  | i :: l, st, I, φ, a, w, h, svs, hd, hR, hs, hres, hk => by
    simp only [shut] at hs
    split at hs
    · rename_i hl
      obtain ⟨b, c, h1, h2⟩ := hR.dmark 0 i (by rw [hd]; rfl)
      obtain ⟨b', c', e1, e2⟩ := hR.rh.blk _ _ hl
      rw [h1] at e1; cases e1
      obtain ⟨ds, hds⟩ : ∃ ds, a.defers = { target := .collected b, args := #[] } :: ds := by
        cases hq : a.defers with
        | nil => rw [hq] at h2; simp at h2
        | cons x ds => rw [hq] at h2; simp at h2; exact ⟨ds, by rw [h2]⟩
      rw [hds]
      have hmb : mblk φ i (.dfr true) = some b := by simp [mblk, h1]
      have hup := hR.upd (n0 := n0) (w' := w.putObj b (.deferred none)) (blk' := .dfr false) hl hmb ⟨rfl, rfl, rfl, Nat.le_refl _, by simp [World.putObj]⟩ (fun k hk => World.putObj_heap_other hk)
        ⟨b, c, h1, World.putObj_heap_same (Array.getElem?_eq_some_iff.1 e2).1⟩ rfl (by simp [mblk, h1])
      refine ⟨by simp, .inl ⟨b, _, rfl, run_takeDeferred e2, ?_⟩⟩
      have hR3 : R I φ { st.upd i (.dfr false) with d := l } { a with defers := ds } (w.putObj b (.deferred none)) :=
        ⟨hup.1.rh, hup.1.size, hup.1.slot, by have := hR.dlen; rw [hd, hds] at this; simpa using this, fun k j hkj => by
          obtain ⟨b2, c2, f1, f2⟩ := hR.dmark (k + 1) j (by rw [hd]; simpa using hkj)
          exact ⟨b2, c2, f1, by rw [hds] at f2; simpa using f2⟩⟩
      exact leaves_shut l { st.upd i (.dfr false) with d := l } I φ { a with defers := ds } _ h svs rfl hR3 hs hres fun v w' I' φ' a1 a2 a3 => hk v w' I' φ' a1 a2 (hup.2.trans a3)
    · cases hs
/-- A contract from a body. -/
theorem pc_of_pw {f : Nat} {fn : Func} {c : Code} {args : List SV} {nx : Nat} {H : List (Nat × ABlk)} {Q : SV → Nat → List (Nat × ABlk) → Prop} (hf : P.funcs[f]? = some fn) (hb : fn.body = some c) (he : Enters P f) (hn : args.length ≤ fn.ntmps)
    (h : PW P nx none c (FinP P fn nx Q)
      { n := fn.ntmps, nx := nx, s := argSlots 0 args, h := H, d := [] }) : PC P f args nx H Q := by
  refine ⟨he, fun I φ w vs hRH hl hs => callsIn_of_wp_marks hf hb trivial (wpIn_mono (h I φ _ w none ?_ (Nat.le_refl _) (fun i hi => by cases hi) rfl) ?_)⟩
  · refine ⟨hRH, by simp; omega, fun t sv ht => ?_, rfl, fun k i hk => by simp at hk⟩
    obtain ⟨_, ht⟩ := lk_argSlots args 0 t sv ht
    simp only [Nat.sub_zero] at ht
    have hlt : t < vs.length := by
      rcases Nat.lt_or_ge t args.length with h | h
      · omega
      · rw [List.getElem?_eq_none h] at ht; cases ht
    have hv : vs[t]? = some vs[t] := List.getElem?_eq_getElem hlt
    have := hs t sv _ ht hv
    have e : (vs.toArray ++ Array.replicate (fn.ntmps - vs.toArray.size) undef).getD t undef = vs[t] := by
      rw [Array.getD_eq_getD_getElem?, Array.getElem?_append_left (by simpa using hlt)]
      simp [hv]
    rwa [e]
  · have fin' : ∀ (e : Exit) (a' : Act) (w' : World), Kp nx (fun st => ∃ st1, Ent nx st st1 ∧ ∃ h, shut st1.d st1.h = some h ∧ ∃ vs, resL P { st1 with h := h, d := [] } fn.results.toList = some vs ∧ Q (wrapRes (vs.map (cv h))) st1.nx h) I φ H w a' w' →
        LeavesInM (FW none) 0 P fn a'.tmps (fun e w' => ∃ v sv nx' H' I' φ', e = .returned v ∧ Q sv nx' H' ∧ RH nx' I' φ' H' w' ∧ nx ≤ nx' ∧ Srel I' φ' w' sv v ∧ Ev nx I φ H w I' φ' H' w') a'.defers .returning w' := by
      rintro e a' w' ⟨st, I1, φ1, ⟨st1, hent, h, hsh, svs, hres, hQ⟩, hR1, hn1, hev1⟩
      obtain ⟨I2, φ2, hR2, hn2, hev2⟩ := hent I1 φ1 a' w' hR1 hn1
      exact leaves_shut (n0 := nx) st1.d st1 I2 φ2 a' w' h svs rfl hR2 hsh hres fun v w2 I3 φ3 c1 c2 c3 => ⟨v, _, _, _, I3, φ3, rfl, hQ, c1, hn2, c2, (hev1.trans hev2).trans c3⟩
    rintro e a' w' hp
    cases e with
    | normal => exact fin' .normal a' w' (Kp.mono (fun st h => h.2) hp)
    | ret => exact fin' .ret a' w' (Kp.mono (fun st h => h.2) hp)
    | exit i => exact absurd hp fun ⟨_, _, _, hq, _⟩ => by rcases hq.1 with h | h <;> cases h
    | goto i => exact absurd hp fun ⟨_, _, _, hq, _⟩ => by rcases hq.1 with h | h <;> cases h
    | panic ch => exact hp.elim
    | outgrown => exact hp.elim
theorem St.frzs_d (st : St) : ∀ l : List SV, (st.frzs l).d = st.d := by
  intro l
  induction l generalizing st with
  | nil => rfl
  | cons v t ih => cases v <;> simp [St.frzs, ih] <;> (unfold St.frz; split <;> rfl)
/-- At the return: what of the result lies in arrays of one's own is written no more. -/
theorem finP_ret {fn : Func} {Q : SV → Nat → List (Nat × ABlk) → Prop} {st : St} {nx : Nat} {e : Exit} {vs : List SV} (l : List SV) (he : e = .normal ∨ e = .ret) (hd : st.d = []) (hr : resL P (st.frzs l) fn.results.toList = some vs)
    (hQ : Q (wrapRes (vs.map (cv (st.frzs l).h))) (st.frzs l).nx (st.frzs l).h) : FinP P fn nx Q e st := by
  refine ⟨he, st.frzs l, ent_frzs l st, (st.frzs l).h, by rw [St.frzs_d, hd]; rfl, vs, ?_, hQ⟩
  have hdd := St.frzs_d st l
  rw [hd] at hdd
  rw [← hr]
  congr 1
  cases hq : st.frzs l
  rw [hq] at hdd
  simp_all
def FinC (P : Program) (fn : Func) (Q : SV → Prop) : Exit → St → Prop := FinP P fn 0 fun sv _ _ => Q sv ∧ sv.const = true
theorem finC_ret {fn : Func} {Q : SV → Prop} {st : St} {e : Exit} {vs : List SV} (l : List SV) (he : e = .normal ∨ e = .ret) (hd : st.d = []) (hr : resL P (st.frzs l) fn.results.toList = some vs)
    (hc : (wrapRes (vs.map (cv (st.frzs l).h))).const = true) (hQ : Q (wrapRes (vs.map (cv (st.frzs l).h)))) : FinC P fn Q e st := finP_ret l he hd hr ⟨hQ, hc⟩
theorem cc_of_pw {f : Nat} {fn : Func} {c : Code} {args : List SV} {Q : SV → Prop} {n : Nat} (hf : P.funcs[f]? = some fn) (hb : fn.body = some c) (he : Enters P f) (hnt : fn.ntmps = n) (hn : args.length ≤ n)
    (h : PW P 0 none c (FinC P fn Q) { n := n, nx := 0, s := argSlots 0 args, h := [], d := [] }) : CC P f args Q := pc_of_pw hf hb he (by omega) (by subst hnt; exact h)
end Go.Vc
/- Part I: literals, make, append, slicing. -/
namespace Go.Vc
open Go.RowKit
variable {P : Program} {n0 : Nat} {r : Option Nat}
/-! ### Rows of cells that read -/
def Flat (I : Nat → Nat → Prop) (w : World) (cells : Array Value) (cs : List PV) : Prop :=
  cells.size = cs.length ∧ ∀ (j : Nat) p, cs[j]? = some p → ∃ u, cells[j]? = some u ∧ Rep I w p u
theorem foldl_set (vs : List (Value × Nat)) (off : Nat) : ∀ (cells : Array Value), (vs.foldl (fun cs (x : Value × Nat) => cs.setIfInBounds (off + x.2) x.1) cells).size = cells.size := by
  induction vs with
  | nil => intro cells; rfl
  | cons v t ih => intro cells; simp only [List.foldl_cons]; rw [ih]; simp
theorem foldl_get (vs : List Value) (off : Nat) : ∀ (k : Nat) (cells : Array Value) (j : Nat), off + k + vs.length ≤ cells.size →
    ((vs.zipIdx k).foldl (fun cs (x : Value × Nat) => cs.setIfInBounds (off + x.2) x.1) cells)[j]? = if off + k ≤ j ∧ j < off + k + vs.length then vs[j - (off + k)]? else cells[j]? := by
  induction vs with
  | nil =>
    intro k cells j _
    simp
    intro h1 h2
    omega
  | cons v t ih =>
    intro k cells j hle
    simp only [List.zipIdx_cons, List.foldl_cons]
    rw [ih (k + 1) _ j (by simp at hle ⊢; omega)]
    by_cases h1 : j = off + k
    · subst h1
      rw [if_neg (by omega), if_pos ⟨by omega, by simp⟩]
      simp at hle
      simp [show off + k < cells.size by omega]
    · by_cases h2 : off + (k + 1) ≤ j ∧ j < off + (k + 1) + t.length
      · rw [if_pos h2, if_pos ⟨by omega, by simp; omega⟩]
        rw [show j - (off + k) = (j - (off + (k + 1))) + 1 by omega, List.getElem?_cons_succ]
      · rw [if_neg h2, if_neg (by simp; omega)]
        rw [Array.getElem?_setIfInBounds_ne (fun e => h1 e.symm)]
theorem fill_flat {I : Nat → Nat → Prop} {w : World} {place : Nat → Option (Nat × Nat)} : ∀ (parts : List (Nat × Value)) (ps : List (Nat × List PV)) (cells : Array Value) (cs : List PV),
    Flat I w cells cs → ps.length = parts.length →
    (∀ (j : Nat) x l, parts[j]? = some x → ps[j]? = some l → ∃ off, place x.1 = some (off, l.2.length) ∧ l.1 = off ∧ off + l.2.length ≤ cs.length ∧ Flat I w x.2.cells l.2) →
    ∃ cells', Instr.fill place cells parts = some cells' ∧ Flat I w cells' (ps.foldl (fun cs l => splice cs l.1 l.2) cs)
  | [], [], cells, cs, h, _, _ => ⟨cells, rfl, h⟩
  | [], _ :: _, _, _, _, hl, _ => by simp at hl
  | _ :: _, [], _, _, _, hl, _ => by simp at hl
  | (i, v) :: parts, l :: ps, cells, cs, h, hl, hp => by
    obtain ⟨off, h1, h2, h3, h4⟩ := hp 0 _ _ rfl rfl
    subst h2
    have hsz : v.cells.size = l.2.length := h4.1
    have hflat : Flat I w (v.cells.zipIdx.foldl (fun cs (x : Value × Nat) => cs.setIfInBounds (l.1 + x.2) x.1) cells) (splice cs l.1 l.2) := by
      have e : v.cells.zipIdx.foldl (fun cs (x : Value × Nat) => cs.setIfInBounds (l.1 + x.2) x.1) cells = (v.cells.toList.zipIdx 0).foldl (fun cs (x : Value × Nat) => cs.setIfInBounds (l.1 + x.2) x.1) cells := by
        rw [← Array.foldl_toList]
        simp
      rw [e]
      refine ⟨by rw [foldl_set, h.1, splice_length], fun j p hj => ?_⟩
      rw [splice_get _ _ _ h3] at hj
      rw [foldl_get _ _ 0 _ _ (by simp [hsz, h.1]; omega)]
      simp only [Nat.add_zero, Array.length_toList, hsz]
      split at hj
      · rename_i hc
        rw [if_pos hc]
        obtain ⟨u, hu, hr⟩ := h4.2 _ _ hj
        exact ⟨u, by simpa using hu, hr⟩
      · rename_i hc
        rw [if_neg hc]
        exact h.2 _ _ hj
    obtain ⟨cells', hf, hfl⟩ := fill_flat parts ps _ _ hflat (by simpa using hl) fun j x m hj hm => by
      obtain ⟨off', k1, k2, k3, k4⟩ := hp (j + 1) x m (by simpa using hj) (by simpa using hm)
      exact ⟨off', k1, k2, by rw [splice_length]; exact k3, k4⟩
    refine ⟨cells', ?_, hfl⟩
    unfold Instr.fill
    simp only [h1]
    rw [if_neg (by simp [hsz, h.1]; omega)]
    exact hf
theorem topvs_ok {I φ st a w} (hR : R I φ st a w) {sv : SV} {l : List PV} {v : Value} (hl : topvs st.h sv = some l) (hs : Srel I φ w sv v) : Flat I w v.cells l ∧ ∀ u ∈ v.cells.toList, u.oneCell' = true := by
  by_cases ha : ∃ cs, sv = .agg cs
  · obtain ⟨cs, rfl⟩ := ha
    simp only [topvs, Option.some.injEq] at hl
    subst hl
    obtain ⟨h1, h2, h3⟩ := svCells_ok (l := cs.map .pv) rfl hs
    refine ⟨⟨by simpa using h1, fun j p hj => ?_⟩, h2⟩
    obtain ⟨u, hu, hs⟩ := h3 j (.pv p) (by simp [hj])
    cases hs with | pv _ _ hr => exact ⟨u, hu, hr⟩
  · have hl' : (toPV st.h sv).map (fun p => [p]) = some l := by
      cases sv <;> first | exact absurd ⟨_, rfl⟩ ha | exact hl
    obtain ⟨p, hp, rfl⟩ := Option.map_eq_some_iff.1 hl'
    have hr := toPV_ok hR.rh hp hs
    have h1 := hr.oneCell
    have hc : v.cells = #[v] := by cases v <;> first | rfl | simp [Value.oneCell'] at h1
    rw [hc]
    refine ⟨⟨rfl, fun j q hj => ?_⟩, fun u hu => by simp at hu; subst hu; exact h1⟩
    cases j with
    | zero => simp at hj; subst hj; exact ⟨_, rfl, hr⟩
    | succ j => simp at hj
/-- The parts of a literal: where each goes and its cells. -/
def partsOf (st : St) (place : Nat → Option (Nat × Nat)) (n : Nat) : List (Nat × Operand) → Option (List (Nat × List PV))
  | [] => some []
  | (i, x) :: l => match (st.ev x).bind (topvs st.h), place i, partsOf st place n l with
    | some ps, some (off, k), some rest => if k = ps.length ∧ off + k ≤ n then some ((off, ps) :: rest) else none
    | _, _, _ => none
theorem partsOf_ok {I φ st a w} (hR : R I φ st a w) {place : Nat → Option (Nat × Nat)} {n : Nat} : ∀ {l : List (Nat × Operand)} {ps}, partsOf st place n l = some ps → ps.length = l.length ∧
    ∀ (j : Nat) x m, (l.map fun q => (q.1, a.eval q.2))[j]? = some x → ps[j]? = some m → ∃ off, place x.1 = some (off, m.2.length) ∧ m.1 = off ∧ off + m.2.length ≤ n ∧ Flat I w x.2.cells m.2
  | [], ps, h => by
    simp only [partsOf, Option.some.injEq] at h
    subst h
    exact ⟨rfl, fun j x m hj => by simp at hj⟩
  | (i, x) :: l, ps, h => by
    simp only [partsOf] at h
    split at h
    · rename_i q off k rest h1 h2 h3
      split at h
      · rename_i hc
        injection h with h
        subst h
        obtain ⟨g1, g2⟩ := partsOf_ok hR h3
        refine ⟨by simp [g1], fun j y m hj hm => ?_⟩
        cases j with
        | zero =>
          simp only [List.map_cons, List.getElem?_cons_zero, Option.some.injEq] at hj hm
          subst hj hm
          obtain ⟨sv, hx, ht⟩ := Option.bind_eq_some_iff.1 h1
          exact ⟨off, by rw [h2, hc.1], rfl, by have := hc.1 ▸ hc.2; simpa using this, (topvs_ok hR ht (ev_ok hR hx)).1⟩
        | succ j => exact g2 j y m (by simpa using hj) (by simpa using hm)
      · cases h
    · cases h
/-- 'build' of a struct. -/
def places (P : Program) (t : TypeId) (i : Nat) : Option (Nat × Nat) := match P.underlying t with
  | some (.struct fs) => (fs[i]?).bind fun f => (tsz P f.type).map fun n => (f.offset, n)
  | _ => none
/-- All fields of a struct type have their sizes. -/
def sized (P : Program) (t : TypeId) : Bool := match P.underlying t with
  | some (.struct fs) => fs.all fun f => (tsz P f.type).isSome
  | _ => false
def vbuild (P : Program) (st : St) (t : TypeId) (parts : List (Nat × Operand)) : Option SV := match sized P t, tzero P t with
  | true, some z => (partsOf st (places P t) z.length parts).map fun ps => .agg (ps.foldl (fun cs l => splice cs l.1 l.2) (z.map .lit))
  | _, _ => none
theorem run_mapMA {α : Type} (f : α → Sem (Nat × Nat)) {w : World} : ∀ (l : List α) (vs : List (Nat × Nat)), vs.length = l.length → (∀ (j : Nat) x v, l[j]? = some x → vs[j]? = some v → (f x).run P w = .ok v w) → (l.mapM f).run P w = .ok vs w
  | [], vs, hl, _ => by
    obtain rfl : vs = [] := List.eq_nil_of_length_eq_zero hl
    simp
  | x :: l, [], hl, _ => by simp at hl
  | x :: l, v :: vs, hl, h => by
    have h0 := h 0 x v rfl rfl
    have ih := run_mapMA f l vs (by simpa using hl) fun j x v a b => h (j + 1) x v (by simpa using a) (by simpa using b)
    rw [List.mapM_cons]
    simp [h0, ih]
theorem build_ok {I φ a w} {o : Oper} {t : TypeId} {parts : Array (Nat × Operand)} {sv : SV} {st : St} (hR : R I φ st a w) (ho : o.op = .build t parts) (hv : vbuild P st t parts.toList = some sv) : ∃ v, (execOp a.eval o).run P w = .ok (.value v) w ∧ Srel I φ w sv v := by
  unfold vbuild at hv
  split at hv
  · rename_i z hsd hz
    obtain ⟨ps, hps, rfl⟩ := Option.map_eq_some_iff.1 hv
    obtain ⟨zv, hzr, hzc, hz1⟩ := run_tzero hz w
    obtain ⟨fs, hu, hall⟩ : ∃ fs, P.underlying t = some (.struct fs) ∧ fs.all (fun f => (tsz P f.type).isSome) = true := by
      unfold sized at hsd
      split at hsd
      · exact ⟨_, ‹_›, hsd⟩
      · cases hsd
    obtain ⟨g1, g2⟩ := partsOf_ok hR hps
    have hzf : Flat I w zv.cells (z.map .lit) := by
      refine ⟨by simp [hzc], fun j p hj => ?_⟩
      rw [List.getElem?_map] at hj
      obtain ⟨u, hu, rfl⟩ := Option.map_eq_some_iff.1 hj
      exact ⟨u, by simp [hzc, hu], .lit _ (hz1 u (List.mem_of_getElem? hu))⟩
    let pl : List (Nat × Nat) := fs.toList.map fun f => (f.offset, (tsz P f.type).getD 0)
    have hpl : (fs.mapM fun f => (do pure (f.offset, ← sizeOf f.type) : Sem (Nat × Nat))).run P w = .ok pl.toArray w := by
      rw [← Array.toArray_toList (xs := fs), List.mapM_toArray]
      simp only [Sem.run_map]
      rw [run_mapMA _ fs.toList pl (by simp [pl])]
      · rfl
      · intro j f v hf hv
        simp only [pl, List.getElem?_map, hf, Option.map_some, Option.some.injEq] at hv
        subst hv
        have hsome : (tsz P f.type).isSome = true := by
          rw [Array.all_eq_true_iff_forall_mem] at hall
          exact hall f (by simpa using List.mem_of_getElem? hf)
        obtain ⟨n, hn⟩ := Option.isSome_iff_exists.1 hsome
        simp [run_tsz hn, hn]
    obtain ⟨cells', hfill, hflat⟩ := fill_flat (I := I) (w := w) (place := fun i => pl.toArray[i]?) (parts.toList.map fun q => (q.1, a.eval q.2)) ps zv.cells (z.map .lit) hzf (by simp [g1]) fun j x m hj hm => by
      obtain ⟨off, k1, k2, k3, k4⟩ := g2 j x m hj hm
      refine ⟨off, ?_, k2, by simpa using k3, k4⟩
      unfold places at k1
      rw [hu] at k1
      obtain ⟨f, hf, hn⟩ := Option.bind_eq_some_iff.1 k1
      obtain ⟨n, hn', he⟩ := Option.map_eq_some_iff.1 hn
      simp only [Prod.mk.injEq] at he
      obtain ⟨rfl, rfl⟩ := he
      have hf' : fs.toList[x.1]? = some f := by simpa using hf
      simp [pl, hf, hn']
    refine ⟨.agg cells', ?_, ?_⟩
    · unfold execOp
      have e : (parts.map fun (i, x) => (i, a.eval x)).toList = parts.toList.map fun q => (q.1, a.eval q.2) := by simp
      simp only [ho, Instr.build, Sem.run_bind, hzr, Result.andThen_ok, run_und hu, hpl, e, hfill, Sem.run_pure]
    · obtain ⟨h1, h2⟩ := hflat
      have := Srel.agg (φ := φ) (I := I) (w := w) (ps.foldl (fun cs l => splice cs l.1 l.2) (z.map .lit)) cells'.toList (by simpa using h1) fun j p u hj hu => by
        obtain ⟨u', hu', hr⟩ := h2 j p hj
        rw [Array.getElem?_toList, hu'] at hu
        injection hu with hu
        exact hu ▸ hr
      simpa using this
  · cases hv
/-- An operation that gives a value and leaves the world. -/
theorem pwo_valq {o : Oper} {sv : SV} {K : St → Prop} {st : St} (hd : ∀ c, o.op ≠ .defer c) (h : ∀ I φ a w, R I φ st a w → ∃ v, (execOp a.eval o).run P w = .ok (.value v) w ∧ Srel I φ w sv v) (hf : st.fits o.dst = true) (hK : K (st.put o.dst sv)) : PWo P n0 r o K st := by
  refine pwo_run hd fun I φ a w hR hn => ?_
  obtain ⟨v, hrun, hs⟩ := h I φ a w hR
  refine ⟨_, w, hrun, .inl ⟨v, rfl, _, I, φ, hK, hR.put hf hs, by cases o.dst <;> exact hn, ?_⟩⟩
  have : (st.put o.dst sv).h = st.h := by cases o.dst <;> rfl
  rw [this]
  exact Ev.refl
theorem pwo_build {o : Oper} {t : TypeId} {parts : Array (Nat × Operand)} {sv : SV} {K : St → Prop} {st : St} (ho : o.op = .build t parts) (hv : vbuild P st t parts.toList = some sv) (hf : st.fits o.dst = true) (hK : K (st.put o.dst sv)) : PWo P n0 r o K st :=
  pwo_valq (fun c hc => by rw [ho] at hc; cases hc) (fun I φ a w hR => build_ok hR ho hv) hf hK
end Go.Vc
/- Part J: slices that the call makes: literals, make, append; slicing. -/
namespace Go.Vc
open Go.RowKit
variable {P : Program} {n0 : Nat} {r : Option Nat}
/-! ### A row of elements -/
def Grid (I : Nat → Nat → Prop) (w : World) (es : Nat) (cells : Array Value) (xs : List (List PV)) : Prop :=
  (∀ x ∈ xs, x.length = es) ∧ ∀ k j p, get2 xs k j = some p → ∃ u, cells[k * es + j]? = some u ∧ Rep I w p u
theorem get2_flat {xs : List (List PV)} {es : Nat} (h : ∀ x ∈ xs, x.length = es) {k j : Nat} {p : PV} (hg : get2 xs k j = some p) : xs.flatten[k * es + j]? = some p ∧ j < es := by
  induction xs generalizing k with
  | nil => simp [get2] at hg
  | cons x t ih =>
    have hx : x.length = es := h x (by simp)
    have hj : j < es := by
      obtain ⟨y, hy, hyj⟩ := Option.bind_eq_some_iff.1 hg
      have := h y (List.mem_of_getElem? hy)
      rcases Nat.lt_or_ge j es with h' | h'
      · exact h'
      · rw [List.getElem?_eq_none (by omega)] at hyj; cases hyj
    refine ⟨?_, hj⟩
    cases k with
    | zero =>
      simp only [Nat.zero_mul, Nat.zero_add, List.flatten_cons]
      rw [List.getElem?_append_left (by omega)]
      simpa [get2] using hg
    | succ k =>
      have := (ih (fun y hy => h y (by simp [hy])) (k := k) (by simpa [get2] using hg)).1
      rw [List.flatten_cons, List.getElem?_append_right (by rw [hx, Nat.add_mul]; omega), hx, ← this]
      congr 1
      rw [Nat.add_mul]
      omega
theorem flat_grid {I : Nat → Nat → Prop} {w : World} {es : Nat} {cells : Array Value} {xs : List (List PV)} (h : ∀ x ∈ xs, x.length = es) (hf : Flat I w cells xs.flatten) : Grid I w es cells xs :=
  ⟨h, fun _ _ _ hg => hf.2 _ _ (get2_flat h hg).1⟩
theorem flatten_len {xs : List (List PV)} {es : Nat} (h : ∀ x ∈ xs, x.length = es) : xs.flatten.length = xs.length * es := by
  induction xs with
  | nil => simp
  | cons x t ih => simp only [List.flatten_cons, List.length_append, List.length_cons]; rw [ih fun y hy => h y (by simp [hy]), h x (by simp), Nat.add_mul]; omega
/-- The elements of a literal. -/
def elemsOf (st : St) (es : Nat) : List Operand → Option (List (List PV))
  | [] => some []
  | x :: l => match (st.ev x).bind (topvs st.h), elemsOf st es l with
    | some p, some ps => if p.length = es then some (p :: ps) else none
    | _, _ => none
/-- The parts come in order, one for each place. -/
def inOrder : Nat → List (Nat × Operand) → Option (List Operand)
  | _, [] => some []
  | i, (j, x) :: l => if j = i then (inOrder (i + 1) l).map (x :: ·) else none
theorem inOrder_ok : ∀ {l : List (Nat × Operand)} {i : Nat} {xs : List Operand}, inOrder i l = some xs → l = (xs.zipIdx i).map fun q => (q.2, q.1)
  | [], i, xs, h => by simp only [inOrder, Option.some.injEq] at h; subst h; rfl
  | (j, x) :: l, i, xs, h => by
    simp only [inOrder] at h
    split at h
    · rename_i e
      subst e
      obtain ⟨ys, hy, rfl⟩ := Option.map_eq_some_iff.1 h
      simp [inOrder_ok hy]
    · cases h
theorem splice_flat (es : Nat) : ∀ (xs : List (List PV)) (k : Nat) (cs : List PV), (∀ x ∈ xs, x.length = es) → cs.length = (k + xs.length) * es →
    (xs.zipIdx k).foldl (fun cs l => splice cs (l.2 * es) l.1) cs = cs.take (k * es) ++ xs.flatten
  | [], k, cs, _, hl => by
    simp only [List.zipIdx_nil, List.foldl_nil, List.flatten_nil, List.append_nil]
    rw [List.take_of_length_le (by simp at hl; omega)]
  | x :: t, k, cs, h, hl => by
    have hx : x.length = es := h x (by simp)
    simp only [List.zipIdx_cons, List.foldl_cons]
    have hle : k * es + x.length ≤ cs.length := by
      rw [hl, hx, List.length_cons]
      have : (k + 1) * es ≤ (k + (t.length + 1)) * es := Nat.mul_le_mul_right _ (by omega)
      rw [Nat.add_mul] at this
      omega
    rw [splice_flat es t (k + 1) _ (fun y hy => h y (by simp [hy])) (by rw [splice_length, hl]; simp; congr 1; omega)]
    rw [List.flatten_cons, ← List.append_assoc]
    congr 1
    apply List.ext_getElem?
    intro j
    rw [List.getElem?_take, splice_get _ _ _ hle, List.getElem?_append]
    have hlen : (cs.take (k * es)).length = k * es := by simp; omega
    rw [hlen, List.getElem?_take]
    have h1 : (k + 1) * es = k * es + es := by rw [Nat.add_mul]; omega
    by_cases c1 : j < k * es
    · rw [if_pos (by omega), if_neg (by omega), if_pos c1, if_pos c1]
    · by_cases c2 : j < k * es + es
      · rw [if_pos (by omega), if_pos (by omega), if_neg c1]
      · rw [if_neg (by omega), if_neg c1, List.getElem?_eq_none (by omega)]
theorem elemsOf_ok {I φ st a w} (hR : R I φ st a w) {es : Nat} : ∀ {l : List Operand} {xs}, elemsOf st es l = some xs → xs.length = l.length ∧ (∀ x ∈ xs, x.length = es) ∧
    ∀ (j : Nat) x v, xs[j]? = some x → (l.map a.eval)[j]? = some v → Flat I w v.cells x ∧ ∀ u ∈ v.cells.toList, u.oneCell' = true
  | [], xs, h => by
    simp only [elemsOf, Option.some.injEq] at h
    subst h
    exact ⟨rfl, fun x hx => by simp at hx, fun j x v hj => by simp at hj⟩
  | x :: l, xs, h => by
    simp only [elemsOf] at h
    split at h
    · rename_i p ps h1 h2
      split at h
      · rename_i hl
        injection h with h
        subst h
        obtain ⟨g1, g2, g3⟩ := elemsOf_ok hR h2
        refine ⟨by simp [g1], fun y hy => ?_, fun j y v hj hv => ?_⟩
        · rcases List.mem_cons.1 hy with rfl | hy
          · exact hl
          · exact g2 y hy
        · cases j with
          | zero =>
            simp only [List.map_cons, List.getElem?_cons_zero, Option.some.injEq] at hj hv
            subst hj hv
            obtain ⟨sv, hx, ht⟩ := Option.bind_eq_some_iff.1 h1
            exact topvs_ok hR ht (ev_ok hR hx)
          | succ j => exact g3 j y v (by simpa using hj) (by simpa using hv)
      · cases h
    · cases h
theorem brel_arr_new {I : Nat → Nat → Prop} {φ : Phi} {w w' : World} {n t es c : Nat} {cells : Array Value} {xs : List (List PV)} (h0 : 0 < es) (hsz : cells.size = c * es) (hle : xs.length ≤ c) (hmx : c ≤ maxLen) (hg : Grid I w es cells xs)
    (hI : ∀ b κ, I b κ → w'.heap[b]? = w.heap[b]?) {b : Nat} (hb : w'.heap[b]? = some (.cells cells t (0, 0))) : Brel I (phiNew φ n (some (b, c))) w' n (.arr t es 0 false xs) := by
  refine ⟨h0, hg.1, .inr ⟨b, c, cells, phiNew_same, hb, hsz, hle, hmx, fun k j p hp => ?_, fun h => by cases h⟩⟩
  obtain ⟨u, hu, hr⟩ := hg.2 k j p hp
  exact ⟨u, hu, hr.mono hI fun _ _ h => h⟩
/-- 'buildSlice': a slice literal. -/
theorem pwo_buildSlice {o : Oper} {t e len es : Nat} {parts : Array (Nat × Operand)} {xl : List Operand} {xs : List (List PV)} {z : List Value} {K : St → Prop} {st : St} (ho : o.op = .buildSlice t len parts) (he : tel P t = some e) (hes : tsz P e = some es) (h0 : 0 < es)
    (hz : tzero P e = some z) (hzl : z.length = es) (hin : inOrder 0 parts.toList = some xl) (hlen : xl.length = len) (hsm : len * es ≤ 16777216) (hx : elemsOf st es xl = some xs) (hf : st.fits o.dst = true)
    (hK : K ((st.new (.arr e es 0 false xs)).put o.dst (.loc es st.nx 0 0 len))) : PWo P n0 r o K st := by
  refine pwo_run (fun c hc => by rw [ho] at hc; cases hc) fun I φ a w hR hn => ?_
  obtain ⟨g1, g2, g3⟩ := elemsOf_ok hR hx
  have hxl : xs.length = len := by omega
  obtain ⟨zv, hzr, hzc, hz1⟩ := run_tzero hz w
  have hparts := inOrder_ok hin
  obtain ⟨zero, hzero, hzsz⟩ : ∃ zero : Array Value, (len * es = 0 → zero = #[]) ∧ (len * es ≠ 0 → zero = z.toArray) := by
    by_cases hc : len * es = 0
    · exact ⟨#[], fun _ => rfl, fun h => absurd hc h⟩
    · exact ⟨z.toArray, fun h => absurd h hc, fun _ => rfl⟩
  have hinit : ∃ cs : List PV, Flat I w ((Array.range (len * es)).map (zero[· % zero.size]!)) cs ∧ cs.length = len * es := by
    refine ⟨(List.range (len * es)).map fun j => .lit (zero[j % zero.size]!), ⟨by simp, fun j p hj => ?_⟩, by simp⟩
    rw [List.getElem?_map] at hj
    obtain ⟨i, hi, rfl⟩ := Option.map_eq_some_iff.1 hj
    have hlt : j < len * es := by
      rcases Nat.lt_or_ge j (len * es) with h | h
      · exact h
      · rw [List.getElem?_eq_none (by simpa using h)] at hi; cases hi
    rw [List.getElem?_range hlt] at hi
    cases hi
    refine ⟨zero[j % zero.size]!, by simp [hlt], .lit _ ?_⟩
    have := hzsz (by omega)
    subst this
    have hm : j % z.length < z.length := Nat.mod_lt _ (by omega)
    simp only [List.size_toArray]
    rw [getElem!_pos _ _ (by simpa using hm)]
    exact hz1 _ (by simp)
  obtain ⟨cs, hcs, hcsl⟩ := hinit
  have hev : (parts.map fun (i, x) => (i, a.eval x)).toList = parts.toList.map fun q => (q.1, a.eval q.2) := by simp
  obtain ⟨cells, hfill, hflat⟩ := fill_flat (I := I) (w := w) (place := fun i => some (i * es, es)) (parts.toList.map fun q => (q.1, a.eval q.2)) ((xs.zipIdx 0).map fun q => (q.2 * es, q.1)) _ cs hcs (by rw [hparts]; simp [g1]) fun j x m hj hm => by
    rw [hparts] at hj
    simp only [List.map_map, List.getElem?_map, List.getElem?_zipIdx] at hj hm
    obtain ⟨y, hy, rfl⟩ := Option.map_eq_some_iff.1 hj
    obtain ⟨q, hq, rfl⟩ := Option.map_eq_some_iff.1 hm
    obtain ⟨y', hy', rfl⟩ := Option.map_eq_some_iff.1 hy
    obtain ⟨q', hq', rfl⟩ := Option.map_eq_some_iff.1 hq
    have hq2 : q'.length = es := g2 _ (List.mem_of_getElem? hq')
    have hj' : j < xs.length := by
      rcases Nat.lt_or_ge j xs.length with h | h
      · exact h
      · rw [List.getElem?_eq_none h] at hq'; cases hq'
    refine ⟨j * es, by simp [hq2], by simp, ?_, (g3 j q' (a.eval y') hq' (by simp [hy'])).1⟩
    rw [hcsl]
    have : (j + 1) * es ≤ len * es := Nat.mul_le_mul_right _ (by omega)
    rw [Nat.add_mul] at this
    simp only
    omega
  have hfl2 : Flat I w cells xs.flatten := by
    have := splice_flat es xs 0 cs g2 (by rw [hcsl, Nat.zero_add, hxl])
    simp only [Nat.zero_mul, List.take_zero, List.nil_append] at this
    rw [List.foldl_map] at hflat
    rwa [this] at hflat
  have hcsz : cells.size = len * es := by rw [hfl2.1, flatten_len g2, hxl]
  have hnew := hR.new (n0 := n0) hn (w' := w.alloc (.cells cells e)) (blk := .arr e es 0 false xs) (x := some (w.heap.size, len)) ⟨rfl, rfl, rfl, Nat.le_refl _, by simp⟩ (fun b hb => Below.heap_alloc w _ b hb)
    (brel_arr_new h0 hcsz (by omega) (by have : len ≤ len * es := Nat.le_mul_of_pos_right _ h0; simp only [maxLen]; omega) (flat_grid g2 hfl2) (fun b κ hb => Below.heap_alloc w _ b (hR.rh.ilt b κ hb)) (World.alloc_heap_new w _)) rfl
    (fun b hb => by simp only [mblk, phiNew_same, Option.bind_some, id, Option.map_some, Option.some.injEq] at hb; subst hb; simp)
  refine ⟨.value (.slice (some ⟨w.heap.size, 0, none⟩) len len), w.alloc (.cells cells e), ?_, .inl ⟨_, rfl, _, I, _, hK, hnew.1.put (by rw [fits_new]; exact hf) ?_, by cases o.dst <;> exact hnew.2.2, ?_⟩⟩
  · unfold execOp
    simp only [ho, Instr.buildSlice, Sem.run_bind, run_und (und_tel he), Result.andThen_ok, run_tsz hes]
    rw [if_neg (by omega)]
    by_cases hc : len * es = 0
    · obtain rfl := hzero hc
      rw [if_pos hc]
      simp only [Sem.run_bind, Sem.run_pure, Result.andThen_ok, hev, hfill]
      simp [newRow]
    · obtain rfl := hzsz hc
      rw [if_neg hc]
      simp only [Sem.run_bind, hzr, Sem.run_pure, Result.andThen_ok, hzc, hev, hfill]
      simp [newRow]
  · have := Srel.loc (I := I) (φ := phiNew φ st.nx (some (w.heap.size, len))) (w := w.alloc (.cells cells e)) es st.nx 0 0 len w.heap.size len (some ⟨w.heap.size, 0, none⟩) phiNew_same (by omega) (by have : len ≤ len * es := Nat.le_mul_of_pos_right _ h0; simp only [maxLen]; omega) (fun _ => by simp)
    simpa using this
  · have : ((st.new (.arr e es 0 false xs)).put o.dst (.loc es st.nx 0 0 len)).h = (st.new (.arr e es 0 false xs)).h := by cases o.dst <;> rfl
    rw [this]
    exact hnew.2.1
end Go.Vc
/- Part K: append, make, slicing. -/
namespace Go.Vc
open Go.RowKit
variable {P : Program} {n0 : Nat} {r : Option Nat}
/-! ### What an append reads -/
structure Src (I : Nat → Nat → Prop) (w : World) (es : Nat) (news : List (List PV)) (v : Value) : Prop where
  val : ∃ A c, v = .slice A news.length c ∧ (0 < news.length → ∃ ad, A = some ad) ∧ ∀ ad k j p, A = some ad → get2 news k j = some p → ∃ u, w.cell? (ad.add (k * es + j)) = some u ∧ Rep I w p u
  els : ∀ x ∈ news, x.length = es
def srcOf (H : List (Nat × ABlk)) (es : Nat) : SV → Option (List (List PV))
  | .pv (.sl es' xs) => if es' = es then some xs else none
  | .pv (.lit (.slice none 0 0)) => some []
  | .loc es' id g off len => match lk id H with
    | some (.arr _ es2 g' _ xs) => if es' = es ∧ es2 = es ∧ g = g' ∧ off + len ≤ xs.length then some ((xs.drop off).take len) else none
    | _ => none
  | _ => none
theorem srcOf_ok {nx I φ H w} (h : RH nx I φ H w) {es sv news v} (hn : srcOf H es sv = some news) (hs : Srel I φ w sv v) : Src I w es news v := by
  unfold srcOf at hn
  split at hn
  · rename_i es' xs
    split at hn
    · rename_i e
      subst e
      injection hn with hn
      subst hn
      cases hs with
      | pv _ _ hr =>
        cases hr with
        | sl _ _ A n c u hm hc hmax hA hes hcell hrep =>
          subst hm
          exact ⟨⟨A, c, rfl, fun h => by obtain ⟨ad, e, _⟩ := hA h; exact ⟨ad, e⟩, fun ad k j p e hg => ⟨_, hcell ad k j p e hg, hrep k j p hg⟩⟩, hes⟩
    · cases hn
  · injection hn with hn
    subst hn
    obtain rfl := hs.lit_inv
    exact ⟨⟨none, 0, rfl, fun h => by simp at h, fun ad k j p e => by cases e⟩, fun x hx => by simp at hx⟩
  · rename_i es' id g off len
    split at hn
    · rename_i t es2 g' frz xs hl
      split at hn
      · rename_i hc
        obtain ⟨rfl, rfl, rfl, hle⟩ := hc
        injection hn with hn
        subst hn
        obtain ⟨h0, hx, hb⟩ := h.blk _ _ hl
        refine ⟨?_, fun x hxx => hx x (List.mem_of_mem_drop (List.mem_of_mem_take hxx))⟩
        have hlen : ((xs.drop off).take len).length = len := by simp; omega
        rw [hlen]
        cases hs with
        | locNil => exact ⟨none, 0, rfl, fun h => by omega, fun ad k j p e => by cases e⟩
        | loc _ _ _ _ _ b c A hφ hle2 hmx hA =>
          rcases hb with ⟨h1, h2⟩ | ⟨b', c', vs, h1, h2, h3, h4, h5, h6, h7⟩
          · rw [h1] at hφ; cases hφ
          · rw [h1] at hφ
            injection hφ with hφ; injection hφ with hφ
            obtain ⟨rfl, rfl⟩ := Prod.mk.inj hφ
            refine ⟨A, _, rfl, fun hp => ⟨_, hA (.inl (by omega))⟩, fun ad k j p e hg => ?_⟩
            obtain ⟨hg', hi⟩ := get2_sub hg
            obtain ⟨u, hu, hr⟩ := h6 _ _ _ hg'
            have e2 := hA (.inl (by omega))
            rw [e] at e2
            injection e2 with e2
            subst e2
            refine ⟨u, ?_, hr⟩
            rw [add_mk]
            have : off * es2 + (k * es2 + j) = (off + k) * es2 + j := by rw [Nat.add_mul]; omega
            rw [this]
            simp [World.cell?, h2, hu]
      · cases hn
    · cases hn
  · cases hn
theorem run_append_nilsrc {t ty e : TypeId} {i : TypeInfo} {w : World} {base size n : Nat} {v : Value} {xs : List Value} {c : Nat} (ht : P.underlying t = some (.slice e)) (hi : P.info? e = some i) (hown : w.ownsRow base e size v n xs) :
    (Builtin.append_ #[t, t] ty #[v, .slice none 0 c]).run P w = .ok v w := by
  rcases hown.2 with ⟨rfl, rfl⟩ | ⟨g, cap, cur, rfl, _, _, hnc, _⟩
  · simp [Builtin.append_, run_und ht, sizeOf, typeInfo, hi, Builtin.lenOf, Builtin.firstCells]
  · simp [Builtin.append_, run_und ht, sizeOf, typeInfo, hi, Builtin.lenOf, Builtin.firstCells, hnc, storeCells]
/-- The bytes of an element. -/
def tbytes (P : Program) (t : TypeId) : Option Nat := (P.info? t).map (·.bytes)
/-- append, on a row of the call's own that reads as elements. -/
theorem run_append_src {I : Nat → Nat → Prop} {w : World} {t ty e es by_ : Nat} {z : List Value} (he : tel P t = some e) (hes : tsz P e = some es) (h0 : 0 < es) (hz : tzero P e = some z) (hzl : z.length = es) (hby : tbytes P e = some by_) (hby0 : 0 < by_)
    {v x : Value} {n : Nat} {ms : List Value} (hown : w.ownsRow 0 e es v n ms) {xs news : List (List PV)} (hxl : xs.length = n) (hxr : ∀ k j p, get2 xs k j = some p → ∃ u, ms[k * es + j]? = some u ∧ Rep I w p u)
    (hs : Src I w es news x) (hfit : (n + news.length) * by_ ≤ 140737488355328) :
    ∃ v' w' ms', (Builtin.append_ #[t, t] ty #[v, x]).run P w = .ok v' w' ∧ w'.ownsRow 0 e es v' (n + news.length) ms' ∧ w.grownBy w' v.ownBlock ∧ (v'.ownBlock = v.ownBlock ∨ v'.ownBlock = some w.heap.size) ∧
      ∀ k j p, get2 (xs ++ news) k j = some p → ∃ u, ms'[k * es + j]? = some u ∧ Rep I w p u := by
  obtain ⟨i, hi, hii⟩ := Option.map_eq_some_iff.1 (show (P.info? e).map (·.size) = some es from hes)
  obtain ⟨i', hi', hzz⟩ := Option.bind_eq_some_iff.1 hz
  rw [hi] at hi'; cases hi'
  obtain ⟨zv, hzv, hzz⟩ := Option.bind_eq_some_iff.1 hzz
  have hzc : zv.cells.size = es := by
    split at hzz
    · injection hzz with hzz; subst hzz; simpa using hzl
    · cases hzz
  have hbyi : i.bytes = by_ := by simpa [tbytes, hi] using hby
  obtain ⟨⟨A, c, rfl, hA, hcell⟩, hels⟩ := hs
  have hml : ms.length = n * es := hown.1
  have hlen63 : n + news.length ≤ maxLen := by
    have : n + news.length ≤ (n + news.length) * by_ := Nat.le_mul_of_pos_right _ hby0
    simp only [maxLen]; omega
  rcases A with _ | ad
  · have hn0 : news = [] := by
      cases news with
      | nil => rfl
      | cons y t => obtain ⟨ad, e⟩ := hA (by simp); cases e
    subst hn0
    exact ⟨v, w, ms, run_append_nilsrc (und_tel he) hi hown, by simpa using hown, World.grownBy.refl w _, .inl rfl, fun k j p hp => hxr k j p (by simpa using hp)⟩
  · obtain ⟨f, hf⟩ : ∃ f : Nat → Value, ∀ k j p, get2 news k j = some p → w.cell? (ad.add (k * es + j)) = some (f (k * es + j)) ∧ Rep I w p (f (k * es + j)) := by
      refine ⟨fun m => (w.cell? (ad.add m)).getD undef, fun k j p hp => ?_⟩
      obtain ⟨u, hu, hr⟩ := hcell ad k j p rfl hp
      simp only [hu, Option.getD_some]
      exact ⟨trivial, hr⟩
    have hex : ∀ m, m < news.length * es → ∃ p, get2 news (m / es) (m % es) = some p := by
      intro m hm
      have h1 : m / es < news.length := (Nat.div_lt_iff_lt_mul h0).2 hm
      have h2 : m % es < es := Nat.mod_lt _ h0
      have hl := hels news[m / es] (by simp)
      exact ⟨news[m / es][m % es], by simp [get2, h1, hl, h2]⟩
    have hdm : ∀ m, m / es * es + m % es = m := fun m => by rw [Nat.mul_comm]; exact Nat.div_add_mod m es
    obtain ⟨v', w', hrun, q1, q2, _, q4⟩ := run_append_own_at (P := P) w 0 t ty e i zv es by_ (und_tel he) hi hzv hii hbyi hzc h0 v n ms hown ad news.length c ((List.range (news.length * es)).map f) (by simp)
      (fun m u hu => by
        rw [List.getElem?_map] at hu
        obtain ⟨m', hm', rfl⟩ := Option.map_eq_some_iff.1 hu
        have hlt : m < news.length * es := by
          rcases Nat.lt_or_ge m (news.length * es) with h | h
          · exact h
          · rw [List.getElem?_eq_none (by simpa using h)] at hm'; cases hm'
        rw [List.getElem?_range hlt] at hm'
        cases hm'
        obtain ⟨p, hp⟩ := hex m hlt
        have := (hf _ _ _ hp).1
        rwa [hdm] at this)
      (fun u hu => by
        obtain ⟨m, hm, rfl⟩ := List.mem_map.1 hu
        obtain ⟨p, hp⟩ := hex m (by simpa using hm)
        have := (hf _ _ _ hp).2.oneCell
        rwa [hdm] at this) hlen63 hfit (Nat.zero_le _)
    refine ⟨v', w', _, hrun, q1, q2, q4, fun k j p hp => ?_⟩
    by_cases hk : k < xs.length
    · have hp' : get2 xs k j = some p := by
        unfold get2 at hp ⊢
        rwa [List.getElem?_append_left hk] at hp
      obtain ⟨u, hu, hr⟩ := hxr k j p hp'
      refine ⟨u, ?_, hr⟩
      rw [List.getElem?_append_left]
      · exact hu
      · rcases Nat.lt_or_ge (k * es + j) ms.length with h | h
        · exact h
        · rw [List.getElem?_eq_none h] at hu; cases hu
    · have hp' : get2 news (k - xs.length) j = some p := by
        unfold get2 at hp ⊢
        rwa [List.getElem?_append_right (by omega)] at hp
      have hjl := (get2_flat hels hp').2
      have hkl := get2_lt hp'
      obtain ⟨h1, h2⟩ := hf _ _ _ hp'
      have e1 : k * es + j = ms.length + ((k - xs.length) * es + j) := by
        rw [hml, ← hxl, Nat.sub_mul]
        have : xs.length * es ≤ k * es := Nat.mul_le_mul_right _ (by omega)
        omega
      refine ⟨_, ?_, h2⟩
      rw [e1, List.getElem?_append_right (by omega), Nat.add_sub_cancel_left, List.getElem?_map, List.getElem?_range]
      · rfl
      · have : (k - xs.length + 1) * es ≤ news.length * es := Nat.mul_le_mul_right _ hkl
        rw [Nat.add_mul] at this
        omega
/-- Where an owned row lies. -/
theorem own_place {w : World} {e es n : Nat} {v : Value} {ms : List Value} (h : w.ownsRow 0 e es v n ms) :
    (v = .slice none 0 0 ∧ n = 0) ∨ ∃ g cap cur, v = .slice (some ⟨g, 0, none⟩) n cap ∧ w.heap[g]? = some (.cells cur e (0, 0)) ∧ n ≤ cap ∧ cap ≤ maxLen ∧ cur.size = cap * es ∧ v.ownBlock = some g ∧ ∀ (j : Nat) u, ms[j]? = some u → cur[j]? = some u := by
  rcases h.2 with h2 | ⟨g, cap, cur, hv, _, h3, h4, h5, h6, h7⟩
  · exact .inl h2
  · refine .inr ⟨g, cap, cur, hv, h3, h4, h5, h6, by rw [hv]; rfl, fun j u hj => ?_⟩
    rw [← h7, List.getElem?_take] at hj
    split at hj
    · simpa using hj
    · cases hj
def phiAt (φ : Phi) (i g : Nat) (x : Option (Nat × Nat)) : Phi := fun j k => if j = i ∧ k = g then some x else φ j k
theorem phiAt_same {φ : Phi} {i g : Nat} {x} : phiAt φ i g x i g = some x := by simp [phiAt]
/-- An array of one's own has grown. -/
theorem R.app {I φ st a w} (h : R I φ st a w) {w' : World} {id t es g : Nat} {xs xs' : List (List PV)} {y : Option (Nat × Nat)} (hl : lk id st.h = some (.arr t es g false xs))
    (hw : w'.os = w.os ∧ w'.tape = w.tape ∧ w'.output = w.output ∧ w.drawn ≤ w'.drawn ∧ w.heap.size ≤ w'.heap.size) (hold : ∀ k, k < w.heap.size → mblk φ id (.arr t es g false xs) ≠ some k → w'.heap[k]? = w.heap[k]?)
    (hB : Brel I (phiAt φ id (g + 1) y) w' id (.arr t es (g + 1) false xs'))
    (hm : ∀ b, mblk (phiAt φ id (g + 1) y) id (.arr t es (g + 1) false xs') = some b → mblk φ id (.arr t es g false xs) = some b ∨ (w.heap.size ≤ b ∧ b < w'.heap.size)) :
    R I (phiAt φ id (g + 1) y) (st.upd id (.arr t es (g + 1) false xs')) a w' ∧ Ev n0 I φ st.h w I (phiAt φ id (g + 1) y) (st.upd id (.arr t es (g + 1) false xs')).h w' := by
  have hnone : φ id (g + 1) = none := by
    cases hx : φ id (g + 1) with
    | none => rfl
    | some x => have := h.rh.gen _ _ _ _ hl hx; simp [ABlk.gen] at this; omega
  have hφ : ∀ i k x, φ i k = some x → phiAt φ id (g + 1) y i k = some x := fun i k x hx => by
    simp only [phiAt]
    split
    · rename_i hc; obtain ⟨rfl, rfl⟩ := hc; rw [hnone] at hx; cases hx
    · exact hx
  have hoth : ∀ i, i ≠ id → phiAt φ id (g + 1) y i = φ i := fun i hi => by funext k; simp [phiAt, hi]
  have hlk : ∀ j bj, lk j (st.upd id (.arr t es (g + 1) false xs')).h = some bj → (j = id ∧ bj = .arr t es (g + 1) false xs') ∨ (j ≠ id ∧ lk j st.h = some bj) := fun j bj hj => by
    simp only [St.upd] at hj
    by_cases e : j = id
    · subst e; rw [lk_hset_same hl] at hj; injection hj with hj; exact .inl ⟨rfl, hj.symm⟩
    · rw [lk_hset_other e] at hj; exact .inr ⟨e, hj⟩
  have hnI : ∀ k κ, I k κ → mblk φ id (.arr t es g false xs) ≠ some k := fun k κ hk e => (h.rh.mlt _ _ k hl e).2 κ hk
  have hI : ∀ k κ, I k κ → w'.heap[k]? = w.heap[k]? := fun k κ hk => hold k (h.rh.ilt k _ hk) (hnI k κ hk)
  have hmu : ∀ j bj k, lk j (st.upd id (.arr t es (g + 1) false xs')).h = some bj → mblk (phiAt φ id (g + 1) y) j bj = some k →
      (∃ bj', lk j st.h = some bj' ∧ mblk φ j bj' = some k) ∨ (j = id ∧ w.heap.size ≤ k ∧ k < w'.heap.size) := fun j bj k hj hmk => by
    rcases hlk j bj hj with ⟨rfl, rfl⟩ | ⟨h1, h2⟩
    · rcases hm k hmk with h3 | h3
      · exact .inl ⟨_, hl, h3⟩
      · exact .inr ⟨rfl, h3⟩
    · exact .inl ⟨bj, h2, by rwa [mblk_congr (hoth j h1)] at hmk⟩
  refine ⟨⟨⟨fun k κ hk => Nat.lt_of_lt_of_le (h.rh.ilt k κ hk) hw.2.2.2.2, fun i k x hx => ?_, fun j bj hj => ?_, fun j bj k x hj hx => ?_, fun j bj k hj hmk => ?_, fun j k bj bk b' hj hk h1 h2 => ?_⟩, h.size,
    fun t' sv ht => (h.slot t' sv ht).mono hI (fun _ _ h => h) hφ, h.dlen, fun k i hk => ?_⟩, ⟨hw.1, hw.2.1, hw.2.2.1, hw.2.2.2.1, hw.2.2.2.2, fun _ _ h => h, fun k hk hmk => hold k hk fun e => hmk ⟨_, _, hl, e⟩, fun k hk => ?_, fun _ _ h => .inl h, fun i k x _ hx => hφ i k x hx, fun i _ hi => hoth i (fun e => by subst e; rw [hl] at hi; cases hi), fun j _ hn => ?_⟩⟩
  · simp only [phiAt] at hx
    split at hx
    · rename_i hc; rw [hc.1]; exact h.rh.lt hl
    · exact h.rh.dom _ _ _ hx
  · rcases hlk j bj hj with ⟨rfl, rfl⟩ | ⟨h1, h2⟩
    · exact hB
    · refine (h.rh.blk j bj h2).mono hI (fun _ _ h => h) hφ fun k hk => hold k (h.rh.mlt j bj k h2 hk).1 fun e => h1 (h.rh.inj _ _ _ _ _ h2 hl hk e)
  · rcases hlk j bj hj with ⟨rfl, rfl⟩ | ⟨h1, h2⟩
    · simp only [phiAt] at hx
      split at hx
      · rename_i hc; simp [ABlk.gen, hc.2]
      · have := h.rh.gen _ _ _ _ hl hx; simp [ABlk.gen] at this ⊢; omega
    · rw [hoth j h1] at hx; exact h.rh.gen j bj k x h2 hx
  · rcases hmu j bj k hj hmk with ⟨bj', h1, h2⟩ | ⟨_, h1, h2⟩
    · have := h.rh.mlt j bj' k h1 h2; exact ⟨by omega, this.2⟩
    · exact ⟨h2, fun κ hI => by have := h.rh.ilt k κ hI; omega⟩
  · rcases hmu j bj b' hj h1 with ⟨bj', c1, c2⟩ | ⟨e1, c1, c2⟩ <;> rcases hmu k bk b' hk h2 with ⟨bk', d1, d2⟩ | ⟨e2, d1, d2⟩
    · exact h.rh.inj j k bj' bk' b' c1 d1 c2 d2
    · have := (h.rh.mlt j bj' b' c1 c2).1; omega
    · have := (h.rh.mlt k bk' b' d1 d2).1; omega
    · omega
  · obtain ⟨b, c, h1, h2⟩ := h.dmark k i hk
    exact ⟨b, c, hφ _ _ _ h1, h2⟩
  · obtain ⟨j, bj, h1, h2⟩ := hk
    rcases hmu j bj k h1 h2 with ⟨bj', c1, c2⟩ | ⟨_, c1, _⟩
    · exact .inl ⟨j, bj', c1, c2⟩
    · exact .inr c1
  · simp only [St.upd]
    rw [lk_hset_other (fun e => by subst e; rw [hl] at hn; cases hn)]
    exact hn
theorem fits_upd (st : St) (i : Nat) (b : ABlk) (d : Option Nat) : (st.upd i b).fits d = st.fits d := by cases d <;> rfl
theorem append_exec {o : Oper} {a : Act} {w w' : World} {s x : Operand} {t : TypeId} {v : Value} (ho : o.op = .call { callee := .builtin .append, args := #[s, x], argTypes := #[t, t] })
    (h : (Builtin.append_ #[t, t] o.type #[a.eval s, a.eval x]).run P w = .ok v w') : (execOp a.eval o).run P w = .ok (.value v) w' := by
  unfold execOp
  simp [ho, resolve, invoke, builtin, h]
/-- 'append' onto nil. -/
theorem pwo_append_nil {o : Oper} {s x : Operand} {t e es by_ : Nat} {z : List Value} {sx : SV} {news : List (List PV)} {K : St → Prop} {st : St} (ho : o.op = .call { callee := .builtin .append, args := #[s, x], argTypes := #[t, t] })
    (he : tel P t = some e) (hes : tsz P e = some es) (h0 : 0 < es) (hz : tzero P e = some z) (hzl : z.length = es) (hby : tbytes P e = some by_) (hby0 : 0 < by_)
    (hs : st.ev s = some (.pv (.lit (.slice none 0 0)))) (hx : st.ev x = some sx) (hn : srcOf st.h es sx = some news) (hfit : news.length * by_ ≤ 140737488355328) (hf : st.fits o.dst = true)
    (hK : K ((st.new (.arr e es 0 false news)).put o.dst (.loc es st.nx 0 0 news.length))) : PWo P n0 r o K st := by
  refine pwo_run (fun c hc => by rw [ho] at hc; cases hc) fun I φ a w hR hn0 => ?_
  have hsv := (ev_ok hR hs).lit_inv
  have hsrc := srcOf_ok hR.rh hn (ev_ok hR hx)
  have hown0 : w.ownsRow 0 e es (a.eval s) 0 [] := by rw [hsv]; exact ⟨by simp, .inl ⟨rfl, rfl⟩⟩
  obtain ⟨v', w', ms', hrun, q1, q2, q3, q4⟩ := run_append_src (ty := o.type) he hes h0 hz hzl hby hby0 hown0 (xs := []) (news := news) rfl (fun k j p hp => by simp [get2] at hp) hsrc (by simpa using hfit)
  have hob : (a.eval s).ownBlock = none := by rw [hsv]; rfl
  rw [hob] at q2 q3
  have hold : ∀ b, b < w.heap.size → w'.heap[b]? = w.heap[b]? := fun b hb => q2.block b hb (by simp)
  have hI : ∀ b κ, I b κ → w'.heap[b]? = w.heap[b]? := fun b κ hb => hold b (hR.rh.ilt b _ hb)
  simp only [Nat.zero_add, List.nil_append] at q1 q4
  rcases own_place q1 with ⟨rfl, hnil⟩ | ⟨g, cap, cur, rfl, c1, c2, c3, c4, c5, c6⟩
  · have : news = [] := List.eq_nil_of_length_eq_zero hnil
    subst this
    have hnew := hR.new (n0 := n0) hn0 (w' := w') (blk := .arr e es 0 false []) (x := none) ⟨q2.os, q2.tape, q2.output, run_drawn _ hrun, q2.size⟩ hold ⟨h0, fun x hx => by simp at hx, .inl ⟨phiNew_same, rfl⟩⟩ rfl
      (fun b hb => by simp [mblk, phiNew_same] at hb)
    refine ⟨_, w', append_exec ho hrun, .inl ⟨_, rfl, _, I, _, hK, hnew.1.put (by rw [fits_new]; exact hf) (.locNil _ _ _ phiNew_same), by cases o.dst <;> exact hnew.2.2, ?_⟩⟩
    have : ((st.new (.arr e es 0 false [])).put o.dst (.loc es st.nx 0 0 0)).h = (st.new (.arr e es 0 false [])).h := by cases o.dst <;> rfl
    rw [List.length_nil, this]
    exact hnew.2.1
  · have hg : g = w.heap.size := by
      rw [c5] at q3
      rcases q3 with q3 | q3 <;> simp at q3
      exact q3
    have hgl : g < w'.heap.size := (Array.getElem?_eq_some_iff.1 c1).1
    have hnew := hR.new (n0 := n0) hn0 (w' := w') (blk := .arr e es 0 false news) (x := some (g, cap)) ⟨q2.os, q2.tape, q2.output, run_drawn _ hrun, q2.size⟩ hold
      (brel_arr_new h0 c4 c2 c3 ⟨hsrc.els, fun k j p hp => by obtain ⟨u, hu, hr⟩ := q4 k j p hp; exact ⟨u, c6 _ _ hu, hr⟩⟩ hI c1) rfl
      (fun b hb => by simp only [mblk, phiNew_same, Option.bind_some, id, Option.map_some, Option.some.injEq] at hb; subst hb; exact ⟨by omega, hgl⟩)
    refine ⟨_, w', append_exec ho hrun, .inl ⟨_, rfl, _, I, _, hK, hnew.1.put (by rw [fits_new]; exact hf) ?_, by cases o.dst <;> exact hnew.2.2, ?_⟩⟩
    · have := Srel.loc (I := I) (φ := phiNew φ st.nx (some (g, cap))) (w := w') es st.nx 0 0 news.length g cap (some ⟨g, 0, none⟩) phiNew_same (by omega) c3 (fun _ => by simp)
      simpa using this
    · have : ((st.new (.arr e es 0 false news)).put o.dst (.loc es st.nx 0 0 news.length)).h = (st.new (.arr e es 0 false news)).h := by cases o.dst <;> rfl
      rw [this]
      exact hnew.2.1
/-- 'append' onto an array of one's own. -/
theorem pwo_append {o : Oper} {s x : Operand} {t e es by_ id g len : Nat} {z : List Value} {sx : SV} {xs news : List (List PV)} {K : St → Prop} {st : St} (ho : o.op = .call { callee := .builtin .append, args := #[s, x], argTypes := #[t, t] })
    (he : tel P t = some e) (hes : tsz P e = some es) (hz : tzero P e = some z) (hzl : z.length = es) (hby : tbytes P e = some by_) (hby0 : 0 < by_)
    (hs : st.ev s = some (.loc es id g 0 len)) (hl : lk id st.h = some (.arr e es g false xs)) (hlen : len ≤ xs.length) (hx : st.ev x = some sx) (hn : srcOf st.h es sx = some news) (hfit : (len + news.length) * by_ ≤ 140737488355328) (hf : st.fits o.dst = true)
    (hK : K ((st.upd id (.arr e es (g + 1) false (xs.take len ++ news))).put o.dst (.loc es id (g + 1) 0 (len + news.length)))) : PWo P n0 r o K st := by
  refine pwo_run (fun c hc => by rw [ho] at hc; cases hc) fun I φ a w hR hn0 => ?_
  have hsrc := srcOf_ok hR.rh hn (ev_ok hR hx)
  obtain ⟨h0, hxe, hB⟩ := hR.rh.blk _ _ hl
  have hsv := ev_ok hR hs
  generalize hev : a.eval s = v at hsv
  -- the row as the library's law has it
  have hrow : ∃ ms, w.ownsRow 0 e es v len ms ∧ (∀ k j p, get2 (xs.take len) k j = some p → ∃ u, ms[k * es + j]? = some u ∧ Rep I w p u) ∧ v.ownBlock = mblk φ id (.arr e es g false xs) := by
    cases hsv with
    | locNil _ _ _ hφ =>
      exact ⟨[], ⟨by simp, .inl ⟨rfl, rfl⟩⟩, fun k j p hp => by simp [get2] at hp, by simp [mblk, hφ, Value.ownBlock]⟩
    | loc _ _ _ _ _ b c A hφ hle hmx hA =>
      rcases hB with ⟨h1, _⟩ | ⟨b', c', vs, h1, h2, h3, h4, h5, h6, h7⟩
      · rw [h1] at hφ; cases hφ
      · rw [h1] at hφ
        injection hφ with hφ; injection hφ with hφ
        obtain ⟨rfl, rfl⟩ := Prod.mk.inj hφ
        have hA' := hA (.inr rfl)
        subst hA'
        refine ⟨vs.toList.take (len * es), ⟨?_, .inr ⟨b', c', vs, by simp, Nat.zero_le _, h2, by omega, h5, h3, rfl⟩⟩, fun k j p hp => ?_, by simp [mblk, h1, Value.ownBlock]⟩
        · have : len * es ≤ c' * es := Nat.mul_le_mul_right _ (by omega)
          simp; omega
        · have hk := get2_lt hp
          have hkl : k < len := by simp at hk; omega
          have hp' : get2 xs k j = some p := by
            unfold get2 at hp ⊢
            rwa [List.getElem?_take, if_pos hkl] at hp
          have hj := (get2_flat hxe hp').2
          obtain ⟨u, hu, hr⟩ := h6 k j p hp'
          refine ⟨u, ?_, hr⟩
          have : (k + 1) * es ≤ len * es := Nat.mul_le_mul_right _ hkl
          rw [Nat.add_mul] at this
          rw [List.getElem?_take, if_pos (by omega)]
          simpa using hu
  obtain ⟨ms, hown, hxr, hob⟩ := hrow
  obtain ⟨v', w', ms', hrun, q1, q2, q3, q4⟩ := run_append_src (ty := o.type) he hes h0 hz hzl hby hby0 hown (xs := xs.take len) (by simp; omega) hxr hsrc hfit
  rw [hob] at q2 q3
  have hold : ∀ k, k < w.heap.size → mblk φ id (.arr e es g false xs) ≠ some k → w'.heap[k]? = w.heap[k]? := fun k hk hm => q2.block k hk fun e => hm e.symm
  have hI : ∀ k κ, I k κ → w'.heap[k]? = w.heap[k]? := fun k κ hk => hold k (hR.rh.ilt k _ hk) fun e => (hR.rh.mlt _ _ k hl e).2 κ hk
  have hels : ∀ y ∈ xs.take len ++ news, y.length = es := fun y hy => by
    rcases List.mem_append.1 hy with hy | hy
    · exact hxe y (List.mem_of_mem_take hy)
    · exact hsrc.els y hy
  have hcl : (xs.take len ++ news).length = len + news.length := by simp; omega
  rcases own_place q1 with ⟨rfl, hnil⟩ | ⟨g', cap, cur, rfl, c1, c2, c3, c4, c5, c6⟩
  · have hnn : xs.take len ++ news = [] := List.eq_nil_of_length_eq_zero (by omega)
    have hup := hR.app (n0 := n0) (w' := w') (xs' := xs.take len ++ news) (y := none) hl ⟨q2.os, q2.tape, q2.output, run_drawn _ hrun, q2.size⟩ hold ⟨h0, hels, .inl ⟨phiAt_same, hnn⟩⟩ (fun b hb => by simp [mblk, phiAt_same] at hb)
    refine ⟨_, w', append_exec ho (by rw [hev]; exact hrun), .inl ⟨_, rfl, _, I, _, hK, hup.1.put (by rw [fits_upd]; exact hf) ?_, by cases o.dst <;> exact hn0, ?_⟩⟩
    · rw [hnil]; exact .locNil _ _ _ phiAt_same
    · have : ((st.upd id (.arr e es (g + 1) false (xs.take len ++ news))).put o.dst (.loc es id (g + 1) 0 (len + news.length))).h = (st.upd id (.arr e es (g + 1) false (xs.take len ++ news))).h := by cases o.dst <;> rfl
      rw [this]
      exact hup.2
  · have hgl : g' < w'.heap.size := (Array.getElem?_eq_some_iff.1 c1).1
    have hup := hR.app (n0 := n0) (w' := w') (xs' := xs.take len ++ news) (y := some (g', cap)) hl ⟨q2.os, q2.tape, q2.output, run_drawn _ hrun, q2.size⟩ hold
      ⟨h0, hels, .inr ⟨g', cap, cur, phiAt_same, c1, c4, by omega, c3, fun k j p hp => by obtain ⟨u, hu, hr⟩ := q4 k j p hp; exact ⟨u, c6 _ _ hu, hr.mono hI fun _ _ h => h⟩, fun h => by cases h⟩⟩
      (fun b hb => by
        simp only [mblk, phiAt_same, Option.bind_some, _root_.id, Option.map_some, Option.some.injEq] at hb
        subst hb
        rw [c5] at q3
        rcases q3 with q3 | q3
        · exact .inl q3.symm
        · injection q3 with q3; exact .inr ⟨by omega, hgl⟩)
    refine ⟨_, w', append_exec ho (by rw [hev]; exact hrun), .inl ⟨_, rfl, _, I, _, hK, hup.1.put (by rw [fits_upd]; exact hf) ?_, by cases o.dst <;> exact hn0, ?_⟩⟩
    · have := Srel.loc (I := I) (φ := phiAt φ id (g + 1) (some (g', cap))) (w := w') es id (g + 1) 0 (len + news.length) g' cap (some ⟨g', 0, none⟩) phiAt_same (by omega) c3 (fun _ => by simp)
      simpa using this
    · have : ((st.upd id (.arr e es (g + 1) false (xs.take len ++ news))).put o.dst (.loc es id (g + 1) 0 (len + news.length))).h = (st.upd id (.arr e es (g + 1) false (xs.take len ++ news))).h := by cases o.dst <;> rfl
      rw [this]
      exact hup.2
end Go.Vc
/- Part L: slicing, make; a region carried out by a function. -/
namespace Go.Vc
open Go.RowKit
variable {P : Program} {n0 : Nat} {r : Option Nat}
/-! ### Slicing -/
def bound (st : St) (dflt : Nat) : Option Operand → Option Nat
  | none => some dflt
  | some x => match (st.ev x).bind litOf with
    | some (.int _ n) => if 0 ≤ n then some n.toNat else none
    | _ => none
def vslice (P : Program) (st : St) (t : TypeId) (lo hi : Option Operand) : SV → Option SV
  | .pv (.sl es xs) => match (tel P t).bind (tsz P), bound st 0 lo, bound st xs.length hi with
    | some n, some l, some h => if n = es ∧ l ≤ h ∧ h ≤ xs.length then some (.pv (.sl es ((xs.drop l).take (h - l)))) else none
    | _, _, _ => none
  | .loc es id g off len => match (tel P t).bind (tsz P), bound st 0 lo, bound st len hi with
    | some n, some l, some h => if n = es ∧ l ≤ h ∧ h ≤ len then some (.loc es id g (off + l) (h - l)) else none
    | _, _, _ => none
  | .pv (.lit (.slice none 0 0)) => match (tel P t).bind (tsz P), bound st 0 lo, bound st 0 hi with
    | some _, some 0, some 0 => some (.pv (.lit (.slice none 0 0)))
    | _, _, _ => none
  | .pv (.lit (.string s)) => match tstr P t, bound st 0 lo, bound st s.size hi with
    | true, some l, some h => if l ≤ h ∧ h ≤ s.size then some (.pv (.lit (.string (s.extract l h)))) else none
    | _, _, _ => none
  | _ => none
theorem bound_ok {I φ st a w} (hR : R I φ st a w) {d : Nat} {x : Option Operand} {n : Nat} (h : bound st d x = some n) : (x = none ∧ n = d) ∨ ∃ y k, x = some y ∧ a.eval y = .int k n := by
  cases x with
  | none => simp only [bound, Option.some.injEq] at h; exact .inl ⟨rfl, h.symm⟩
  | some y =>
    simp only [bound] at h
    split at h
    · rename_i k m hm
      split at h
      · rename_i h0
        injection h with h
        obtain ⟨sv, hx, hl⟩ := Option.bind_eq_some_iff.1 hm
        obtain ⟨e, _⟩ := litOf_ok hl (ev_ok hR hx)
        exact .inr ⟨y, k, rfl, by rw [e]; congr 1; omega⟩
      · cases h
    · cases h
theorem run_sliceBounds {I φ st a w} (hR : R I φ st a w) {isS : Bool} {len cap : Nat} {lo hi : Option Operand} {l h : Nat} (h1 : bound st 0 lo = some l) (h2 : bound st len hi = some h) (hle : l ≤ h) (hlc : h ≤ cap) :
    (Instr.sliceBounds isS len cap (lo.map a.eval) (hi.map a.eval) none).run P w = .ok (l, h, cap) w := by
  rcases bound_ok hR h1 with ⟨rfl, rfl⟩ | ⟨y, k, rfl, hy⟩ <;> rcases bound_ok hR h2 with ⟨rfl, rfl⟩ | ⟨y', k', rfl, hy'⟩ <;>
    simp [Instr.sliceBounds, Instr.sliceBound, asIntOf, *]
theorem vslice_ok {I φ st a w} (hR : R I φ st a w) {t : TypeId} {x : SV} {v : Value} {lo hi : Option Operand} {sv : SV} (h : vslice P st t lo hi x = some sv) (hs : Srel I φ w x v) :
    ∃ u, (Instr.sliceAt t v (lo.map a.eval) (hi.map a.eval) none).run P w = .ok u w ∧ Srel I φ w sv u := by
  have key : ∀ {e n : Nat} {A : Option Addr} {len cap l hh : Nat}, tel P t = some e → tsz P e = some n → bound st 0 lo = some l → bound st len hi = some hh → l ≤ hh → hh ≤ cap → v = .slice A len cap →
      (Instr.sliceAt t v (lo.map a.eval) (hi.map a.eval) none).run P w = .ok (.slice (if cap = l then A else A.map (·.add (l * n))) (hh - l) (cap - l)) w := by
    rintro e n A len cap l hh he hn h1 h2 hle hlc rfl
    have := run_sliceBounds (P := P) (isS := true) hR h1 h2 hle hlc
    simp [Instr.sliceAt, Instr.slice, run_und (und_tel he), this, run_tsz hn]
  unfold vslice at h
  split at h
  · rename_i es xs
    split at h
    · rename_i n l hh hn h1 h2
      split at h
      · rename_i hc
        obtain ⟨rfl, hle, hlc⟩ := hc
        injection h with h
        subst h
        obtain ⟨e, he, hsz⟩ := Option.bind_eq_some_iff.1 hn
        cases hs with
        | pv _ _ hr =>
          cases hr with
          | sl _ _ A m c u hm hcap hmax hA hes hcell hrep =>
            subst hm
            refine ⟨_, key he hsz h1 h2 hle (by omega) rfl, .pv _ _ (.sl _ _ _ _ _ (fun i j => u (l + i) j) (by simp; omega) (by omega) (by omega) (fun hp => ?_) (fun x hx => hes x (List.mem_of_mem_drop (List.mem_of_mem_take hx))) (fun ad i j p e hg => ?_) fun i j p hg => hrep _ _ _ (get2_sub hg).1)⟩
            · obtain ⟨ad, rfl, hI⟩ := hA (by omega)
              exact ⟨ad.add (l * n), by rw [if_neg (by omega)]; rfl, by rw [block_add]; exact hI⟩
            · obtain ⟨hg', hi'⟩ := get2_sub hg
              obtain ⟨ad0, rfl, hI⟩ := hA (by omega)
              rw [if_neg (by omega)] at e
              simp only [Option.map_some, Option.some.injEq] at e
              subst e
              have := hcell ad0 (l + i) j p rfl hg'
              rw [← this]
              congr 1
              have e3 : (l + i) * n + j = l * n + (i * n + j) := by rw [Nat.add_mul]; omega
              rw [e3]
              unfold Addr.add
              by_cases a1 : l * n = 0 <;> by_cases a2 : i * n + j = 0 <;> simp_all [Nat.add_assoc]
      · cases h
    · cases h
  · rename_i es id g off len
    split at h
    · rename_i n l hh hn h1 h2
      split at h
      · rename_i hc
        obtain ⟨rfl, hle, hlc⟩ := hc
        injection h with h
        subst h
        obtain ⟨e, he, hsz⟩ := Option.bind_eq_some_iff.1 hn
        cases hs with
        | locNil _ _ _ hφ =>
          have h3 : hh = 0 := by omega
          have h4 : l = 0 := by omega
          subst h3 h4
          exact ⟨_, key he hsz h1 h2 hle (Nat.le_refl _) rfl, by simpa using .locNil _ _ _ hφ⟩
        | loc _ _ _ _ _ b c A hφ hl2 hmx hA =>
          refine ⟨_, key he hsz h1 h2 hle (by omega) rfl, ?_⟩
          rw [show c - off - l = c - (off + l) by omega]
          refine .loc _ _ _ _ _ b c _ hφ (by omega) hmx fun hq => ?_
          by_cases hcl : c - off = l
          · rw [if_pos hcl]
            rcases hq with hq | hq
            · omega
            · have h5 : off = 0 := by omega
              have h6 : l = 0 := by omega
              subst h5 h6
              simpa using hA (.inr rfl)
          · rw [if_neg hcl, hA (.inl (by omega))]
            simp [add_mk, Nat.add_mul]
      · cases h
    · cases h
  · split at h
    · rename_i n hn h1 h2
      injection h with h
      subst h
      obtain ⟨e, he, hsz⟩ := Option.bind_eq_some_iff.1 hn
      obtain rfl := hs.lit_inv
      exact ⟨_, key he hsz h1 h2 (Nat.le_refl _) (Nat.le_refl _) rfl, by simpa using hs⟩
    · cases h
  · rename_i s
    split at h
    · rename_i l hh hT h1 h2
      split at h
      · rename_i hc
        injection h with h
        subst h
        obtain rfl := hs.lit_inv
        have hu : P.underlying t = some .string := by unfold tstr at hT; split at hT <;> simp_all
        have := run_sliceBounds (P := P) (isS := false) (cap := s.size) hR h1 h2 hc.1 hc.2
        exact ⟨.string (s.extract l hh), by simp [Instr.sliceAt, Instr.slice, run_und hu, this], .pv _ _ (.lit _ rfl)⟩
      · cases h
    · cases h
  · cases h
theorem pwo_slice {o : Oper} {t : TypeId} {x : Operand} {lo hi : Option Operand} {sx sv : SV} {K : St → Prop} {st : St} (ho : o.op = .slice t x lo hi none) (hx : st.ev x = some sx) (hv : vslice P st t lo hi sx = some sv) (hf : st.fits o.dst = true) (hK : K (st.put o.dst sv)) : PWo P n0 r o K st := by
  refine pwo_run (fun c hc => by rw [ho] at hc; cases hc) fun I φ a w hR hn => ?_
  obtain ⟨u, hu, hs⟩ := vslice_ok hR hv (ev_ok hR hx)
  refine ⟨.value u, w, ?_, .inl ⟨u, rfl, _, I, φ, hK, hR.put hf hs, by cases o.dst <;> exact hn, ?_⟩⟩
  · unfold execOp
    simp [ho, hu]
  · have : (st.put o.dst sv).h = st.h := by cases o.dst <;> rfl
    rw [this]
    exact Ev.refl
/-- 'make([]T, n)', elements of one cell. -/
theorem pwo_make {o : Oper} {t e by_ : Nat} {l c : Operand} {k k' : IntKind} {n : Nat} {z : Value} {K : St → Prop} {st : St} (ho : o.op = .makeSlice t l c) (he : tel P t = some e)
    (hinfo : (P.info? e).map (fun i => (i.zero, i.size, i.bytes)) = some (some z, 1, by_)) (hz1 : z.cells = #[z]) (hzo : z.oneCell' = true)
    (hl : st.ev l = some (.pv (.lit (.int k n)))) (hc : st.ev c = some (.pv (.lit (.int k' n)))) (hb : by_ * n ≤ 281474976710656) (hb0 : 0 < by_) (hf : st.fits o.dst = true)
    (hK : K ((st.new (.arr e 1 0 false (List.replicate n [.lit z]))).put o.dst (.loc 1 st.nx 0 0 n))) : PWo P n0 r o K st := by
  refine pwo_run (fun c hc => by rw [ho] at hc; cases hc) fun I φ a w hR hn => ?_
  have el := (ev_ok hR hl).lit_inv
  have ec := (ev_ok hR hc).lit_inv
  have hn63 : n ≤ 9223372036854775807 := by have : n ≤ by_ * n := Nat.le_mul_of_pos_left _ hb0; omega
  have hrun := run_make_row' (P := P) t e z by_ (und_tel he) hinfo hz1 k k' n hb hn63 w
  have hcell : ∀ j, j < n → (madeCells #[z] n)[j]? = some z := fun j hj => by simp [madeCells, hj, Nat.mod_one]
  have hnew := hR.new (n0 := n0) hn (w' := w.alloc (.cells (madeCells #[z] n) e)) (blk := .arr e 1 0 false (List.replicate n [.lit z])) (x := some (w.heap.size, n)) ⟨rfl, rfl, rfl, Nat.le_refl _, by simp⟩ (fun b hb => Below.heap_alloc w _ b hb)
    (brel_arr_new (by omega) (by simp [madeCells]) (by simp) (by simp only [maxLen]; omega) ⟨fun x hx => by rw [List.eq_of_mem_replicate hx]; rfl, fun k j p hp => by
      have hkn := get2_lt hp
      simp at hkn
      obtain ⟨y, hy, hyj⟩ := Option.bind_eq_some_iff.1 hp
      rw [List.getElem?_replicate, if_pos hkn] at hy
      injection hy with hy
      subst hy
      cases j with
      | zero => simp at hyj; subst hyj; exact ⟨z, by simpa using hcell k hkn, .lit _ hzo⟩
      | succ j => simp at hyj⟩ (fun b κ hb => Below.heap_alloc w _ b (hR.rh.ilt b κ hb)) (World.alloc_heap_new w _)) rfl
    (fun b hb => by simp only [mblk, phiNew_same, Option.bind_some, id, Option.map_some, Option.some.injEq] at hb; subst hb; simp)
  refine ⟨.value (.slice (some ⟨w.heap.size, 0, none⟩) n n), w.alloc (.cells (madeCells #[z] n) e), ?_, .inl ⟨_, rfl, _, I, _, hK, hnew.1.put (by rw [fits_new]; exact hf) ?_, by cases o.dst <;> exact hnew.2.2, ?_⟩⟩
  · unfold execOp
    simp [ho, el, ec, hrun]
  · have := Srel.loc (I := I) (φ := phiNew φ st.nx (some (w.heap.size, n))) (w := w.alloc (.cells (madeCells #[z] n) e)) 1 st.nx 0 0 n w.heap.size n (some ⟨w.heap.size, 0, none⟩) phiNew_same (by omega) (by simp only [maxLen]; omega) (fun _ => by simp)
    simpa using this
  · have : ((st.new (.arr e 1 0 false (List.replicate n [.lit z]))).put o.dst (.loc 1 st.nx 0 0 n)).h = (st.new (.arr e 1 0 false (List.replicate n [.lit z]))).h := by cases o.dst <;> rfl
    rw [this]
    exact hnew.2.1
end Go.Vc
/- Part M: a region's operations, carried out by a function. -/
namespace Go.Vc
open Go.RowKit
variable {P : Program} {n0 : Nat} {r : Option Nat}
def isNil : SV → Bool
  | .pv (.lit (.slice none 0 0)) => true
  | _ => false
theorem isNil_ok {sv : SV} (h : isNil sv = true) : sv = .pv (.lit (.slice none 0 0)) := by
  unfold isNil at h
  split at h
  · rfl
  · cases h
def hbox (st : St) (sv : SV) : Option (St × SV) := (svCells sv).map fun l => (st.new (.box l), .ref st.nx 0)
def halloc (P : Program) (st : St) (t : TypeId) : Option (St × SV) := (tzero P t).map fun l => (st.new (.box (l.map fun v => .pv (.lit v))), .ref st.nx 0)
def hstore (P : Program) (st : St) (t : TypeId) (v : SV) : SV → Option St
  | .ref id off => match svCells v, lk id st.h with
    | some l, some (.box cs) => if tsz P t = some l.length ∧ off + l.length ≤ cs.length then some (st.upd id (.box (splice cs off l))) else none
    | _, _ => none
  | .aref es id g i off => match topvs (st.frzs [v]).h v, lk id (st.frzs [v]).h with
    | some l, some (.arr ta es' g' false xs) => match xs[i]? with
      | some el => if es' = es ∧ g' = g ∧ tsz P t = some l.length ∧ off + l.length ≤ el.length then some ((st.frzs [v]).upd id (.arr ta es g false (xs.set i (splice el off l)))) else none
      | none => none
    | _, _ => none
  | _ => none
def hbuild (P : Program) (st : St) (t : TypeId) (parts : List (Nat × Operand)) : Option (St × SV) := match st.evs (parts.map (·.2)) with
  | some vs => (vbuild P (st.frzs vs) t parts).map fun sv => (st.frzs vs, sv)
  | none => none
def hbuildSlice (P : Program) (st : St) (t len : Nat) (parts : List (Nat × Operand)) : Option (St × SV) := match tel P t, inOrder 0 parts with
  | some e, some xl => match tsz P e, tzero P e, st.evs xl with
    | some es, some z, some vs => match elemsOf (st.frzs vs) es xl with
      | some xs => if 0 < es ∧ z.length = es ∧ xl.length = len ∧ len * es ≤ 16777216 then some ((st.frzs vs).new (.arr e es 0 false xs), .loc es st.nx 0 0 len) else none
      | none => none
    | _, _, _ => none
  | _, _ => none
def happend (P : Program) (st : St) (t : TypeId) (s x : SV) : Option (St × SV) := match tel P t with
  | some e => match tsz P e, tzero P e, tbytes P e with
    | some es, some z, some b => match srcOf st.h es x with
      | some news => match s with
        | .loc es' id g 0 len => match lk id st.h with
          | some (.arr e' es2 g' false xs) => if e' = e ∧ es' = es ∧ es2 = es ∧ g' = g ∧ z.length = es ∧ 0 < b ∧ len ≤ xs.length ∧ (len + news.length) * b ≤ 140737488355328 then
              some (st.upd id (.arr e es (g + 1) false (xs.take len ++ news)), .loc es id (g + 1) 0 (len + news.length)) else none
          | _ => none
        | s => if isNil s ∧ 0 < es ∧ z.length = es ∧ 0 < b ∧ news.length * b ≤ 140737488355328 then some (st.new (.arr e es 0 false news), .loc es st.nx 0 0 news.length) else none
      | none => none
    | _, _, _ => none
  | none => none
/-- A type's zero value, where it is one cell. -/
def tzero1 (P : Program) (t : TypeId) : Option Value := (P.info? t).bind fun i => i.zero.bind fun z => if z.oneCell' then some z else none
def hmake (P : Program) (st : St) (t : TypeId) (l c : SV) : Option (St × SV) := match tel P t, litOf l, litOf c with
  | some e, some (.int _ n), some (.int _ m) => match tsz P e, tzero1 P e, tbytes P e with
    | some 1, some z, some b => if 0 ≤ n ∧ m = n ∧ b * n.toNat ≤ 281474976710656 ∧ 0 < b then some (st.new (.arr e 1 0 false (List.replicate n.toNat [.lit z])), .loc 1 st.nx 0 0 n.toNat) else none
    | _, _, _ => none
  | _, _, _ => none
def fin1 (o : Oper) : Option (St × SV) → Option St
  | some (st, sv) => if st.fits o.dst then some (st.put o.dst sv) else none
  | none => none
def step1 (P : Program) (st : St) (o : Oper) : Option St := match o.op with
  | .box _ x => match st.ev x with
    | some v => fin1 o (hbox st v)
    | none => none
  | .alloc t => fin1 o (halloc P st t)
  | .store t x y => match o.dst, st.ev x, st.ev y with
    | none, some a, some v => hstore P st t v a
    | _, _, _ => none
  | .build t parts => fin1 o (hbuild P st t parts.toList)
  | .buildSlice t len parts => fin1 o (hbuildSlice P st t len parts.toList)
  | .slice t x lo hi mx => match mx, st.ev x with
    | none, some v => fin1 o ((vslice P st t lo hi v).map fun sv => (st, sv))
    | _, _ => none
  | .makeSlice t l c => match st.ev l, st.ev c with
    | some a, some b => fin1 o (hmake P st t a b)
    | _, _ => none
  | .call c => match c.callee with
    | .builtin .append => match c.args.toList, c.argTypes.toList with
      | [s, x], [t, t'] => if t = t' then match st.ev s, st.ev x with
        | some a, some b => fin1 o (happend P st t a b)
        | _, _ => none else none
      | _, _ => none
    | .builtin b => fin1 o ((vbuiltin P st b c.args.toList c.argTypes.toList).map fun sv => (st, sv))
    | _ => none
  | op => fin1 o ((vop P st op).map fun sv => (st, sv))
theorem fin1_some {o : Oper} {x : Option (St × SV)} {st' : St} (h : fin1 o x = some st') : ∃ st1 sv, x = some (st1, sv) ∧ st1.fits o.dst = true ∧ st' = st1.put o.dst sv := by
  unfold fin1 at h
  split at h
  · rename_i st1 sv
    split at h
    · injection h with h; exact ⟨st1, sv, rfl, ‹_›, h.symm⟩
    · cases h
  · cases h
theorem toArr {α : Type} {a : Array α} {l : List α} (h : a.toList = l) : a = l.toArray := by subst h; rfl
theorem step1_ok {o : Oper} {st st' : St} {K : St → Prop} (h : step1 P st o = some st') (hK : K st') : PWo P n0 r o K st := by
  have hval : ∀ sv, vop P st o.op = some sv → st.fits o.dst = true → st' = st.put o.dst sv → PWo P n0 r o K st := fun sv h1 h2 h3 => pwo_val h1 h2 (h3 ▸ hK)
  have gen : fin1 o ((vop P st o.op).map fun sv => (st, sv)) = some st' → PWo P n0 r o K st := fun h => by
    obtain ⟨st1, sv, h1, h2, h3⟩ := fin1_some h
    obtain ⟨sv', h4, h5⟩ := Option.map_eq_some_iff.1 h1
    cases h5
    exact hval _ h4 h2 h3
  unfold step1 at h
  cases ho : o.op with
  | box t x =>
    rw [ho] at h
    simp only at h
    split at h
    · rename_i v hx
      obtain ⟨st1, sv, h1, h2, h3⟩ := fin1_some h
      obtain ⟨l, hl, h5⟩ := Option.map_eq_some_iff.1 h1
      cases h5
      exact pwo_box ho hx hl h2 (h3 ▸ hK)
    · cases h
  | alloc t =>
    rw [ho] at h
    obtain ⟨st1, sv, h1, h2, h3⟩ := fin1_some h
    obtain ⟨l, hl, h5⟩ := Option.map_eq_some_iff.1 h1
    cases h5
    exact pwo_alloc ho hl h2 (h3 ▸ hK)
  | store t x y =>
    rw [ho] at h
    simp only at h
    split at h
    · rename_i a v hd hx hy
      unfold hstore at h
      split at h
      · split at h
        · rename_i l cs hl hb
          split at h
          · rename_i hc
            injection h with h
            exact pwo_store ho hd hx hy hl hb hc.1 hc.2 (h ▸ hK)
          · cases h
        · cases h
      · rename_i es id g i off
        split at h
        · rename_i l ta es' g' xs hl hb
          split at h
          · rename_i el hel
            split at h
            · rename_i hc
              obtain ⟨rfl, rfl, hs, hle⟩ := hc
              injection h with h
              have hse : ∀ z, (st.frzs [v]).ev z = st.ev z := fun z => by
                have : (st.frzs [v]).s = st.s := by unfold St.frzs; split <;> first | rfl | exact St.frz_s _ _ | (simp only [List.cons.injEq] at *; simp_all [St.frzs, St.frz_s])
                cases z <;> simp [St.ev, this]
              exact PWo.ent (ent_frzs [v] st) (pwo_storeA ho hd (by rw [hse]; exact hx) (by rw [hse]; exact hy) hl hb hs hel hle (h ▸ hK))
            · cases h
          · cases h
        · cases h
      · cases h
    · cases h
  | build t parts =>
    rw [ho] at h
    obtain ⟨st1, sv, h1, h2, h3⟩ := fin1_some h
    unfold hbuild at h1
    split at h1
    · obtain ⟨l, hl, h5⟩ := Option.map_eq_some_iff.1 h1
      cases h5
      exact PWo.ent (ent_frzs _ st) (pwo_build ho hl h2 (h3 ▸ hK))
    · cases h1
  | buildSlice t len parts =>
    rw [ho] at h
    obtain ⟨st1, sv, h1, h2, h3⟩ := fin1_some h
    unfold hbuildSlice at h1
    split at h1
    · rename_i e xl he hin
      split at h1
      · rename_i es z vs hes hz hvs
        split at h1
        · rename_i xs hxs
          split at h1
          · rename_i hc
            simp only [Option.some.injEq, Prod.mk.injEq] at h1
            obtain ⟨rfl, rfl⟩ := h1
            have hnx : ∀ (l : List SV) (s : St), (s.frzs l).nx = s.nx := by
              intro l
              induction l with
              | nil => intro s; rfl
              | cons v t ih => intro s; cases v <;> simp [St.frzs, ih, St.frz_nx]
            rw [fits_new] at h2
            exact PWo.ent (ent_frzs vs st) (pwo_buildSlice ho he hes hc.1 hz hc.2.1 hin hc.2.2.1 hc.2.2.2 hxs h2 (by rw [hnx]; exact h3 ▸ hK))
          · cases h1
        · cases h1
      · cases h1
    · cases h1
  | slice t x lo hi mx =>
    rw [ho] at h
    simp only at h
    split at h
    · rename_i v hx
      obtain ⟨st1, sv, h1, h2, h3⟩ := fin1_some h
      obtain ⟨l, hl, h5⟩ := Option.map_eq_some_iff.1 h1
      cases h5
      exact pwo_slice ho hx hl h2 (h3 ▸ hK)
    · cases h
  | makeSlice t l c =>
    rw [ho] at h
    simp only at h
    split at h
    · rename_i a b ha hb
      obtain ⟨st1, sv, h1, h2, h3⟩ := fin1_some h
      unfold hmake at h1
      split at h1
      · rename_i e k n k' m he hn hm
        split at h1
        · rename_i z by_ hes hz hby
          split at h1
          · rename_i hc
            obtain ⟨h0, rfl, hbb, hb0⟩ := hc
            simp only [Option.some.injEq, Prod.mk.injEq] at h1
            obtain ⟨rfl, rfl⟩ := h1
            have hla : a = .pv (.lit (.int k m)) := by unfold litOf at hn; split at hn <;> simp_all
            have hlb : b = .pv (.lit (.int k' m)) := by unfold litOf at hm; split at hm <;> simp_all
            obtain ⟨i, hi, hii⟩ := Option.map_eq_some_iff.1 (show (P.info? e).map (·.size) = some 1 from hes)
            obtain ⟨i', hi', hzz⟩ := Option.bind_eq_some_iff.1 hz
            rw [hi] at hi'; cases hi'
            obtain ⟨zv, hzv, hzz⟩ := Option.bind_eq_some_iff.1 hzz
            split at hzz
            · rename_i hone
              injection hzz with hzz
              subst hzz
              have hcells : zv.cells = #[zv] := by cases zv <;> first | rfl | simp [Value.oneCell'] at hone
              rw [fits_new] at h2
              have hm0 : (m.toNat : Int) = m := by omega
              refine pwo_make ho he (by simp [hi, hzv, hii]; simpa [tbytes, hi] using hby) hcells hone (k := k) (k' := k') (n := m.toNat) (by rw [ha, hla, hm0]) (by rw [hb, hlb, hm0]) hbb hb0 h2 (h3 ▸ hK)
            · cases hzz
          · cases h1
        · cases h1
      · cases h1
    · cases h
  | call c =>
    rw [ho] at h
    obtain ⟨callee, args, argTypes⟩ := c
    simp only at h
    split at h
    · split at h
      · rename_i s x t t' hargs hts
        split at h
        · rename_i htt
          subst htt
          obtain rfl := toArr hargs
          obtain rfl := toArr hts
          split at h
          · rename_i a b hs hx
            obtain ⟨st1, sv, h1, h2, h3⟩ := fin1_some h
            unfold happend at h1
            split at h1
            · rename_i e he
              split at h1
              · rename_i es z by_ hes hz hby
                split at h1
                · rename_i news hn
                  split at h1
                  · rename_i es' id g len
                    split at h1
                    · rename_i e' es2 g' xs hl
                      split at h1
                      · rename_i hc
                        obtain ⟨rfl, rfl, rfl, rfl, hzl, hb0, hlen, hfit⟩ := hc
                        simp only [Option.some.injEq, Prod.mk.injEq] at h1
                        obtain ⟨rfl, rfl⟩ := h1
                        rw [fits_upd] at h2
                        exact pwo_append ho he hes hz hzl hby hb0 hs hl hlen hx hn hfit h2 (h3 ▸ hK)
                      · cases h1
                    · cases h1
                  · split at h1
                    · rename_i hc
                      obtain ⟨hnil, h0, hzl, hb0, hfit⟩ := hc
                      simp only [Option.some.injEq, Prod.mk.injEq] at h1
                      obtain ⟨rfl, rfl⟩ := h1
                      rw [fits_new] at h2
                      exact pwo_append_nil ho he hes h0 hz hzl hby hb0 (by rw [hs, isNil_ok hnil]) hx hn hfit h2 (h3 ▸ hK)
                    · cases h1
                · cases h1
              · cases h1
            · cases h1
          · cases h
        · cases h
      · cases h
    · rename_i b hne
      refine gen ?_
      rw [ho]
      exact h
    · cases h
  | _ => rw [ho] at h; exact gen (by rw [ho]; exact h)
end Go.Vc
/- Part N: runs of operations. -/
namespace Go.Vc
open Go.RowKit
variable {P : Program} {n0 : Nat} {r : Option Nat}
theorem enters_mk {f : Nat} {fn : Func} (h : P.funcs[f]? = some fn) (hb : fn.body.isSome = true) (hn : (fn.name == "runtime.NumGoroutine") = false) : Enters P f := by
  intro args w
  unfold callFunc
  simp only [Sem.run_bind, run_program, Result.andThen_ok, h, hn]
  have : fn.body.isNone = false := by cases hb' : fn.body <;> simp_all
  simp [this]
/-- Numbers that fit stay as they are. -/
theorem wrap64_id {n : Int} (h : -9223372036854775808 ≤ n ∧ n ≤ 9223372036854775807) : IntKind.i64.wrap n = n := by
  have hb : ((2 : Int) ^ 64) = 18446744073709551616 := by decide
  have hc : ((2 : Int) ^ (64 - 1)) = 9223372036854775808 := by decide
  simp only [IntKind.wrap, IntKind.bits, IntKind.signed, hb, hc]
  split <;> simp_all <;> omega
end Go.Vc
namespace Go.Vc
variable {P : Program} {n0 : Nat} {r : Option Nat} {Q : Exit → St → Prop} {st st' : St} {x y c : Code} {l : List Code}
/-- A row of codes, one behind the other. -/
def PWs (P : Program) (n0 : Nat) (r : Option Nat) : List Code → (Exit → St → Prop) → St → Prop
  | [], Q, st => Q .normal st
  | c :: l, Q, st => PW P n0 r c (thenQ (PWs P n0 r l Q) Q) st
theorem pw_of_pws (h : PWs P n0 r [c] Q st) : PW P n0 r c Q st := PW.mono h fun e st h => by cases e <;> exact h
theorem pws_nil (h : Q .normal st) : PWs P n0 r [] Q st := h
theorem pws_seq (h : PWs P n0 r (x :: y :: l) Q st) : PWs P n0 r (.seq x y :: l) Q st := by
  refine pw_seq fun K hK => PW.mono h fun e st h => ?_
  cases e with
  | normal => exact hK _ h
  | _ => exact h
theorem pws_cond {t : Nat} {k : Bool} (ht : lk t st.s = some (.pv (.lit (.bool k)))) (h1 : k = true → PWs P n0 r (x :: l) Q st) (h2 : k = false → PWs P n0 r (y :: l) Q st) : PWs P n0 r (.cond (.tmp t) x y :: l) Q st :=
  pw_cond rfl ht h1 h2
theorem pws_true {t : Nat} (ht : lk t st.s = some (.pv (.lit (.bool true)))) (h1 : PWs P n0 r (x :: l) Q st) : PWs P n0 r (.cond (.tmp t) x y :: l) Q st := pws_cond ht (fun _ => h1) fun h => by cases h
theorem pws_false {t : Nat} (ht : lk t st.s = some (.pv (.lit (.bool false)))) (h2 : PWs P n0 r (y :: l) Q st) : PWs P n0 r (.cond (.tmp t) x y :: l) Q st := pws_cond ht (fun h => by cases h) fun _ => h2
theorem pws_skip (h : PWs P n0 r l Q st) : PWs P n0 r (.skip :: l) Q st := pw_skip h
theorem pws_exit {i : Nat} (h : Q (.exit i) st) : PWs P n0 r (.exit i :: l) Q st := pw_exit h
theorem pws_ret (h : Q .ret st) : PWs P n0 r (.ret :: l) Q st := pw_ret h
/-- How a block may be left. -/
def blkQ (P : Program) (n0 : Nat) (r : Option Nat) (i : Nat) (l : List Code) (Q : Exit → St → Prop) : Exit → St → Prop
  | .normal, st => PWs P n0 r l Q st
  | .exit j, st => if j = i then PWs P n0 r l Q st else Q (.exit j) st
  | e, st => Q e st
theorem pws_block {i : Nat} (h : PWs P n0 r [c] (blkQ P n0 r i l Q) st) : PWs P n0 r (.block i c :: l) Q st := by
  refine pw_block (PW.mono (pw_of_pws h) fun e st h => ?_)
  cases e with
  | exit j =>
    simp only [blkQ] at h
    simp only [inBlockQ]
    split at h
    · rename_i e; rw [if_pos e]; exact h
    · rename_i e; rw [if_neg e]; exact h
  | _ => exact h
theorem blk_normal {i : Nat} (h : PWs P n0 r l Q st) : blkQ P n0 r i l Q .normal st := h
theorem blk_same {i : Nat} (h : PWs P n0 r l Q st) : blkQ P n0 r i l Q (.exit i) st := by simp only [blkQ, if_true]; exact h
theorem blk_ret {i : Nat} (h : Q .ret st) : blkQ P n0 r i l Q .ret st := h
theorem thenQ_normal {K : St → Prop} (h : K st) : thenQ K Q .normal st := h
theorem thenQ_ret {K : St → Prop} (h : Q .ret st) : thenQ K Q .ret st := h
theorem thenQ_exit {K : St → Prop} {i : Nat} (h : Q (.exit i) st) : thenQ K Q (.exit i) st := h
/-- A loop. -/
theorem pws_loop {α : Type} (J : α → St) (μ : α → Nat) (ok : α → Prop) (x0 : α) (h0 : ok x0) (he : Ent n0 st (J x0))
    (round : ∀ x, ok x → ∀ K : St → Prop, (∀ st' x', Ent n0 st' (J x') → ok x' → μ x' < μ x → K st') → PWs P n0 r [c] (thenQ K Q) (J x)) : PWs P n0 r (.loop c :: l) Q st := by
  refine pw_loop J μ ok x0 h0 he fun x hx K hK => PW.mono (pw_of_pws (round x hx K hK)) fun e st h => ?_
  cases e <;> exact h
theorem pws_ent (he : Ent n0 st st') (h : PWs P n0 r (c :: l) Q st') : PWs P n0 r (c :: l) Q st := PW.ent he h
end Go.Vc
/- Part O: forgetting; calls in a run. -/
namespace Go.Vc
open Go.RowKit
variable {P : Program} {n0 : Nat} {r : Option Nat}
mutual
/-- All names of blocks lie below n. -/
def SV.lo (n : Nat) : SV → Prop
  | .pv _ => True
  | .agg _ => True
  | .cref _ => True
  | .ref id _ => id < n
  | .loc _ id _ _ _ => id < n
  | .aref _ id _ _ _ => id < n
  | .clos _ caps => ∀ q ∈ caps, q.1 < n
  | .tup vs => belowL n vs
  | .yld id => id < n
  | .mp id => id < n
  | .itr id => id < n
def belowL (n : Nat) : List SV → Prop
  | [] => True
  | v :: l => v.lo n ∧ belowL n l
end
theorem belowL_get {n : Nat} {l : List SV} (h : belowL n l) : ∀ (j : Nat) sv, l[j]? = some sv → sv.lo n := by
  induction l with
  | nil => intro j sv hj; simp at hj
  | cons v t ih =>
    intro j sv hj
    cases j with
    | zero => simp at hj; exact hj ▸ h.1
    | succ j => exact ih h.2 j sv (by simpa using hj)
def slotsBelow (n : Nat) : List (Nat × SV) → Prop
  | [] => True
  | q :: l => q.2.lo n ∧ slotsBelow n l
theorem slotsBelow_get {n : Nat} {l : List (Nat × SV)} (h : slotsBelow n l) {t : Nat} {sv : SV} (hl : lk t l = some sv) : sv.lo n := by
  induction l with
  | nil => cases hl
  | cons q r ih =>
    simp only [lk] at hl
    split at hl
    · injection hl with hl; exact hl ▸ h.1
    · exact ih h.2 hl
def ABlk.lo (n : Nat) : ABlk → Prop
  | .box cs => belowL n cs
  | .arr .. => True
  | .dfr _ => True
  | .lrec _ s _ _ _ _ _ d => slotsBelow n s ∧ d < n
  | .map _ es => ∀ q ∈ es, q.2.1.lo n ∧ q.2.2.lo n
  | .mit m _ _ _ => m < n
def heapBelow (n : Nat) : List (Nat × ABlk) → Prop
  | [] => True
  | q :: l => (q.1 < n ∧ q.2.lo n) ∧ heapBelow n l
theorem heapBelow_get {n : Nat} {l : List (Nat × ABlk)} (h : heapBelow n l) {t : Nat} {b : ABlk} (hl : lk t l = some b) : t < n ∧ b.lo n := by
  induction l with
  | nil => cases hl
  | cons q r ih =>
    simp only [lk] at hl
    split at hl
    · rename_i e; injection hl with hl; exact ⟨e ▸ h.1.1, hl ▸ h.1.2⟩
    · exact ih h.2 hl
def phiCut (φ : Phi) (n : Nat) : Phi := fun i g => if i < n then φ i g else none
theorem phiCut_lt {φ : Phi} {n i : Nat} (h : i < n) : phiCut φ n i = φ i := by funext g; simp [phiCut, h]
theorem Srel.cut {I : Nat → Nat → Prop} {φ : Phi} {w : World} {n : Nat} {sv : SV} {v : Value} (h : Srel I φ w sv v) (hb : sv.lo n) : Srel I (phiCut φ n) w sv v := by
  induction h with
  | pv p v h => exact .pv p v h
  | agg cs vs hl h => exact .agg cs vs hl h
  | ref id off b c h => exact .ref id off b c (by rw [phiCut_lt hb]; exact h)
  | cref cs a u κ hi hc hr => exact .cref cs a u κ hi hc hr
  | locNil es id g h => exact .locNil es id g (by rw [phiCut_lt hb]; exact h)
  | loc es id g off len b c A h hl hc hA => exact .loc es id g off len b c A (by rw [phiCut_lt hb]; exact h) hl hc hA
  | aref es id g i off b c h => exact .aref es id g i off b c (by rw [phiCut_lt hb]; exact h)
  | clos f caps vs hl h =>
    refine .clos f caps vs hl fun j q hq => ?_
    obtain ⟨b, c, h1, h2⟩ := h j q hq
    have hb' : ∀ q ∈ caps, q.1 < n := hb
    exact ⟨b, c, by rw [phiCut_lt (hb' q (List.mem_of_getElem? hq))]; exact h1, h2⟩
  | tup svs vs hl h ih => exact .tup svs vs hl fun j sv u a b => ih j sv u a b (belowL_get hb j sv a)
  | yld id b c h => exact .yld id b c (by rw [phiCut_lt hb]; exact h)
  | mp id b c h => exact .mp id b c (by rw [phiCut_lt hb]; exact h)
  | itr id b c h => exact .itr id b c (by rw [phiCut_lt hb]; exact h)
theorem Brel.cut {I : Nat → Nat → Prop} {φ : Phi} {w : World} {n i : Nat} {blk : ABlk} (h : Brel I φ w i blk) (hi : i < n) (hb : blk.lo n) : Brel I (phiCut φ n) w i blk := by
  cases blk with
  | box cs =>
    obtain ⟨b, c, t, vs, h1, h2, h3, h4⟩ := h
    refine ⟨b, c, t, vs, by rw [phiCut_lt hi]; exact h1, h2, h3, fun j sv hj => ?_⟩
    obtain ⟨u, hu, hs⟩ := h4 j sv hj
    exact ⟨u, hu, hs.cut (belowL_get hb j sv hj)⟩
  | arr t es g frz xs =>
    obtain ⟨h0, hx, h⟩ := h
    refine ⟨h0, hx, ?_⟩
    rw [phiCut_lt hi]
    exact h
  | dfr op =>
    obtain ⟨b, c, h1, h2⟩ := h
    exact ⟨b, c, by rw [phiCut_lt hi]; exact h1, h2⟩
  | lrec m s st pend ps assign body d =>
    obtain ⟨b, c, fn, tms, bd, cd, h1, hd, h2, h3, h4⟩ := h
    exact ⟨b, c, fn, tms, bd, cd, by rw [phiCut_lt hi]; exact h1, by rw [phiCut_lt hb.2]; exact hd, h2, h3, fun t sv ht => (h4 t sv ht).cut (slotsBelow_get hb.1 ht)⟩
  | map clock es =>
    obtain ⟨b, c, ents, h1, h2, h3, h4⟩ := h
    refine ⟨b, c, ents, by rw [phiCut_lt hi]; exact h1, h2, h3, fun j q hq => ?_⟩
    obtain ⟨e, he, hbn, ha, hb'⟩ := h4 j q hq
    have := hb q (List.mem_of_getElem? hq)
    exact ⟨e, he, hbn, ha.cut this.1, hb'.cut this.2⟩
  | mit m since seen last =>
    obtain ⟨b, c, bm, cm, h1, h2, h3⟩ := h
    exact ⟨b, c, bm, cm, by rw [phiCut_lt hi]; exact h1, by rw [phiCut_lt hb]; exact h2, h3⟩
/-- Each entry of the first list is found in the second. -/
def SubL {β : Type} : List (Nat × β) → List (Nat × β) → Prop
  | [], _ => True
  | (t, v) :: r, s => lk t s = some v ∧ SubL r s
theorem SubL.get {β : Type} {s' s : List (Nat × β)} (h : SubL s' s) {t : Nat} {v : β} (hl : lk t s' = some v) : lk t s = some v := by
  induction s' with
  | nil => cases hl
  | cons q r ih =>
    obtain ⟨t', v'⟩ := q
    simp only [lk] at hl
    split at hl
    · rename_i e; injection hl with hl; subst e hl; exact h.1
    · exact ih h.2 hl
/-- A state that forgets: slots, blocks; names are given anew from a lower number on, if none of those above is meant. -/
theorem ent_subd {st st' : St} (hn : st'.n = st.n) (hd : st'.d = st.d) (hdl : ∀ i ∈ st.d, i < st'.nx) (hs : SubL st'.s st.s) (hh : SubL st'.h st.h) (h1 : n0 ≤ st'.nx) (_h2 : st'.nx ≤ st.nx) (h3 : slotsBelow st'.nx st'.s) (h4 : heapBelow st'.nx st'.h) : Ent n0 st st' := by
  intro I φ a w hR hn0
  have hlk : ∀ i blk, lk i st'.h = some blk → i < st'.nx ∧ lk i st.h = some blk := fun i blk hl => ⟨(heapBelow_get h4 hl).1, hh.get hl⟩
  have hmb : ∀ i blk b, lk i st'.h = some blk → mblk (phiCut φ st'.nx) i blk = some b → lk i st.h = some blk ∧ mblk φ i blk = some b := fun i blk b hl hm => by
    obtain ⟨c1, c2⟩ := hlk i blk hl
    exact ⟨c2, by rwa [mblk_congr (phiCut_lt c1)] at hm⟩
  refine ⟨I, phiCut φ st'.nx, ⟨⟨hR.rh.ilt, fun i g x hx => ?_, fun i blk hl => ?_, fun i blk g x hl hx => ?_, fun i blk b hl hm => ?_, fun i j bi bj b hi hj hbi hbj => ?_⟩, by rw [hR.size, hn], fun t sv ht => (hR.slot t sv (hs.get ht)).cut (slotsBelow_get h3 ht), ?_, fun k i hk => ?_⟩, h1,
    ⟨rfl, rfl, rfl, Nat.le_refl _, Nat.le_refl _, fun _ _ h => h, fun _ _ _ => rfl, fun b hb => ?_, fun _ _ h => .inl h, fun i g x hi hx => by rw [phiCut_lt (by omega)]; exact hx, fun i hi _ => phiCut_lt (by omega), fun i _ hl => ?_⟩⟩
  · simp only [phiCut] at hx
    split at hx
    · assumption
    · cases hx
  · exact (hR.rh.blk i blk (hlk i blk hl).2).cut (hlk i blk hl).1 (heapBelow_get h4 hl).2
  · rw [phiCut_lt (hlk i blk hl).1] at hx
    exact hR.rh.gen i blk g x (hlk i blk hl).2 hx
  · obtain ⟨c1, c2⟩ := hmb i blk b hl hm
    exact hR.rh.mlt i blk b c1 c2
  · obtain ⟨c1, c2⟩ := hmb i bi b hi hbi
    obtain ⟨d1, d2⟩ := hmb j bj b hj hbj
    exact hR.rh.inj i j bi bj b c1 d1 c2 d2
  · rw [hR.dlen, hd]
  · rw [hd] at hk
    obtain ⟨b, c, e1, e2⟩ := hR.dmark k i hk
    exact ⟨b, c, by rw [phiCut_lt (hdl i (List.mem_of_getElem? hk))]; exact e1, e2⟩
  · obtain ⟨i, blk, c1, c2⟩ := hb
    obtain ⟨d1, d2⟩ := hmb i blk b c1 c2
    exact .inl ⟨i, blk, d1, d2⟩
  · cases hx : lk i st'.h with
    | none => rfl
    | some blk => rw [(hlk i blk hx).2] at hl; cases hl
theorem ent_sub {st st' : St} (hn : st'.n = st.n) (hd : st'.d = []) (hd' : st.d = []) (hs : SubL st'.s st.s) (hh : SubL st'.h st.h) (h1 : n0 ≤ st'.nx) (h2 : st'.nx ≤ st.nx) (h3 : slotsBelow st'.nx st'.s) (h4 : heapBelow st'.nx st'.h) : Ent n0 st st' :=
  ent_subd hn (hd.trans hd'.symm) (by rw [hd']; simp) hs hh h1 h2 h3 h4
theorem ent_frzs' {st : St} (l : List SV) {K : St → Prop} {ops : Array Oper} {os : List Oper} (h : PWl P n0 r ops os K (st.frzs l)) : PWl P n0 r ops os K st := PWl.ent (ent_frzs l st) h
end Go.Vc
/- Part P: regions that leave their order open: one canonical order stands for all. -/
namespace Go.Vc
open Go.RowKit
variable {P : Program} {n0 : Nat} {r : Option Nat}
/-- The operations that come before one in every order. -/
def predsOf (ops : Array Oper) (i : Nat) : List Nat := match ops[i]? with
  | some o => (o.after.toList.filter (Region.binds .any)).map (·.on)
  | none => []
/-- A row of operations that may follow what has been done. -/
inductive Lin (ops : Array Oper) : List Nat → List Nat → Prop where
  | nil (done : List Nat) (h : ∀ i, i < ops.size → i ∈ done) : Lin ops done []
  | cons (done : List Nat) (i : Nat) (rest : List Nat) (hi : i < ops.size) (hn : i ∉ done) (hp : ∀ j ∈ predsOf ops i, j ∈ done) (h : Lin ops (i :: done) rest) : Lin ops done (i :: rest)
/-- A total order of all operations that a mode's edges allow. -/
def validOrd (m : Region.Mode) (ops : Array Oper) (ord : List Nat) : Bool :=
  (List.range ops.size).all (fun i => ord.contains i) &&
  ord.zipIdx.all fun (i, k) => match ops[i]? with
    | some o => o.after.all fun e => !Region.binds m e || ((ord.take k).contains e.on && decide (e.on < ops.size))
    | none => true
theorem countP_lt {α : Type} {p q : α → Bool} {l : List α} (h : ∀ x ∈ l, q x = true → p x = true) {x : α} (hx : x ∈ l) (hp : p x = true) (hq : q x = false) : l.countP q < l.countP p := by
  induction l with
  | nil => simp at hx
  | cons y t ih =>
    have hle : t.countP q ≤ t.countP p := List.countP_mono_left fun z hz hq' => h z (by simp [hz]) hq'
    rcases List.mem_cons.1 hx with rfl | hx
    · simp [hp, hq]; omega
    · have := ih (fun z hz hq' => h z (by simp [hz]) hq') hx
      have hy := h y (by simp)
      simp only [List.countP_cons]
      by_cases hqy : q y = true
      · simp [hqy, hy hqy]; omega
      · by_cases hpy : p y = true <;> simp [hqy, hpy] <;> omega
theorem go_lin (m : Region.Mode) (hany : ∀ e, Region.binds .any e = true → Region.binds m e = true) (ops : Array Oper) (ord : List Nat) (hord : validOrd m ops ord = true) : ∀ (fuel t : Nat) (listed : Array Bool) (acc done : List Nat), listed.size = ops.size →
    (∀ i, i < ops.size → (listed.getD i false = true ↔ i ∈ done)) → (List.range ops.size).countP (fun i => !listed.getD i false) ≤ fuel →
    ∃ rest, Region.linearise.go m ops fuel t listed acc = acc.reverse ++ rest ∧ Lin ops done rest := by
  simp only [validOrd, Bool.and_eq_true, List.all_eq_true] at hord
  obtain ⟨hall, hval⟩ := hord
  intro fuel
  induction fuel with
  | zero =>
    intro t listed acc done hsz hl hc
    refine ⟨[], by simp [Region.linearise.go], .nil _ fun i hi => ?_⟩
    have : (List.range ops.size).countP (fun i => !listed.getD i false) = 0 := by omega
    rw [List.countP_eq_zero] at this
    have h := this i (by simpa using hi)
    exact (hl i hi).1 (by simpa using h)
  | succ fuel ih =>
    intro t listed acc done hsz hl hc
    obtain ⟨rs, hrs⟩ : ∃ rs, rs = (List.range ops.size).filter fun i => !listed.getD i true && ((ops[i]?).map (·.after.all fun e => !Region.binds m e || listed.getD e.on false)).getD false := ⟨_, rfl⟩
    unfold Region.linearise.go
    simp only [← hrs]
    by_cases hfull : ∀ i, i < ops.size → i ∈ done
    · have : rs = [] := by
        rw [hrs, List.filter_eq_nil_iff]
        intro i hi
        have hi' : i < ops.size := by simpa using hi
        have h1 := (hl i hi').2 (hfull i hi')
        have h2 : listed.getD i true = true := by
          rw [Array.getD_eq_getD_getElem?] at h1 ⊢
          rw [Array.getElem?_eq_getElem (by omega)] at h1 ⊢
          simpa using h1
        simp [h2]
      subst this
      refine ⟨[], by simp, .nil _ hfull⟩
    · -- the first of the total order that is not done is ready
      have hex : ∃ i, i < ops.size ∧ i ∉ done := Classical.byContradiction fun hne => hfull fun i hi => Classical.byContradiction fun hd => hne ⟨i, hi, hd⟩
      obtain ⟨i0, hi0, hd0⟩ := hex
      have hin : i0 ∈ ord := by simpa using hall i0 (by simpa using hi0)
      have first : ∀ (l1 l2 : List Nat), ord = l1 ++ l2 → (∀ j ∈ l1, j < ops.size → j ∈ done) → (∃ i ∈ l2, i < ops.size ∧ i ∉ done) → ∃ a i b, ord = a ++ i :: b ∧ (∀ j ∈ a, j < ops.size → j ∈ done) ∧ i < ops.size ∧ i ∉ done := by
        intro l1 l2
        induction l2 generalizing l1 with
        | nil => rintro _ _ ⟨i, hi, _⟩; simp at hi
        | cons y t ih =>
          intro he h1 ⟨i, hi, h2, h3⟩
          by_cases hy : y < ops.size ∧ y ∉ done
          · exact ⟨l1, y, t, he, h1, hy.1, hy.2⟩
          · refine ih (l1 ++ [y]) (by simp [he]) (fun j hj hlt => ?_) ?_
            · rcases List.mem_append.1 hj with hj | hj
              · exact h1 j hj hlt
              · simp at hj; subst hj; exact Classical.byContradiction fun hd => hy ⟨hlt, hd⟩
            · rcases List.mem_cons.1 hi with rfl | hi
              · exact absurd ⟨h2, h3⟩ hy
              · exact ⟨i, hi, h2, h3⟩
      obtain ⟨la, i1, lb, he, hla, hi1, hd1⟩ := first [] ord rfl (fun j hj => by simp at hj) ⟨i0, hin, hi0, hd0⟩
      have hready : ∀ (o : Oper), ops[i1]? = some o → (o.after.all fun e => !Region.binds m e || listed.getD e.on false) = true := by
        intro o ho
        have hv := hval (i1, la.length) (by rw [he]; simp [List.mem_zipIdx_iff_getElem?])
        simp only [ho] at hv
        rw [Array.all_eq_true_iff_forall_mem] at hv ⊢
        intro e hem
        have := hv e hem
        simp only [Bool.or_eq_true] at this ⊢
        rcases this with h | h
        · exact .inl h
        · refine .inr ?_
          rw [Bool.and_eq_true] at h
          have hmem : e.on ∈ la := by have h1 := h.1; rw [he] at h1; simpa using h1
          exact (hl _ (of_decide_eq_true h.2)).2 (hla _ hmem (of_decide_eq_true h.2))
      have hne : rs ≠ [] := by
        intro hnil
        rw [hnil] at hrs
        have := List.filter_eq_nil_iff.1 hrs.symm i1 (by simpa using hi1)
        apply this
        have h1 : listed.getD i1 true = false := by
          have hnl : ¬ listed.getD i1 false = true := fun h => hd1 ((hl i1 hi1).1 h)
          rw [Array.getD_eq_getD_getElem?] at hnl ⊢
          rw [Array.getElem?_eq_getElem (by omega)] at hnl ⊢
          simpa using hnl
        have ho : ops[i1]? = some ops[i1] := Array.getElem?_eq_getElem hi1
        simp only [h1, Bool.not_false, Bool.true_and, ho, Option.map_some, Option.getD_some]
        exact hready _ ho
      have hlen : 0 < rs.length := by cases rs with | nil => exact absurd rfl hne | cons => simp
      have hget : rs[t % rs.length]? = some (rs[t % rs.length]'(Nat.mod_lt _ hlen)) := List.getElem?_eq_getElem _
      rw [hget]
      obtain ⟨i, hi⟩ : ∃ i, i = rs[t % rs.length]'(Nat.mod_lt _ hlen) := ⟨_, rfl⟩
      rw [← hi]
      have hmem : i ∈ rs := by rw [hi]; exact List.getElem_mem _
      rw [hrs, List.mem_filter] at hmem
      obtain ⟨hm1, hm2⟩ := hmem
      have hiN : i < ops.size := by simpa using hm1
      simp only [Bool.and_eq_true, Bool.not_eq_true'] at hm2
      have hnd : i ∉ done := by
        intro hd
        have := (hl i hiN).2 hd
        have h2 := hm2.1
        rw [Array.getD_eq_getD_getElem?] at this h2
        rw [Array.getElem?_eq_getElem (by omega)] at this h2
        simp at this h2
        rw [this] at h2; cases h2
      have hfalse : listed.getD i false = false := by
        cases hq : listed.getD i false with
        | false => rfl
        | true => exact absurd ((hl i hiN).1 hq) hnd
      have hset : ∀ j, j < ops.size → ((listed.setIfInBounds i true).getD j false = true ↔ j ∈ i :: done) := by
        intro j hj
        by_cases e : j = i
        · subst e
          simp [Array.getD_eq_getD_getElem?, hsz, hj]
        · rw [List.mem_cons]
          simp only [e, false_or]
          rw [← hl j hj]
          simp only [Array.getD_eq_getD_getElem?]
          rw [Array.getElem?_setIfInBounds_ne (fun h => e h.symm)]
      obtain ⟨rest, h1, h2⟩ := ih (t / rs.length) (listed.setIfInBounds i true) (i :: acc) (i :: done) (by simpa using hsz) hset (by
        have := countP_lt (p := fun i => !listed.getD i false) (q := fun j => !(listed.setIfInBounds i true).getD j false) (l := List.range ops.size) (x := i) (fun j hj hq => by
          have hjN : j < ops.size := by simpa using hj
          cases hx : listed.getD j false with
          | false => rfl
          | true =>
            have := (hset j hjN).2 (List.mem_cons_of_mem _ ((hl j hjN).1 hx))
            simp only [this] at hq
            cases hq) (by simpa using hiN) (by simp only [hfalse]; rfl) (by
              have := (hset i hiN).2 (by simp)
              simp only [this]; rfl)
        omega)
      refine ⟨i :: rest, by show Region.linearise.go m ops fuel (t / rs.length) (listed.setIfInBounds i true) (i :: acc) = _; rw [h1]; simp, .cons _ _ _ hiN hnd (fun j hj => ?_) h2⟩
      have ho : ops[i]? = some ops[i] := Array.getElem?_eq_getElem hiN
      unfold predsOf at hj
      rw [ho] at hj hm2
      simp only [List.mem_map, List.mem_filter] at hj
      obtain ⟨e, ⟨he1, he2⟩, rfl⟩ := hj
      have hq := hm2.2
      simp only [Option.map_some, Option.getD_some] at hq
      rw [Array.all_eq_true_iff_forall_mem] at hq
      have := hq e (by simpa using he1)
      simp only [hany e he2, Bool.not_true, Bool.false_or] at this
      have hlt : e.on < ops.size := by
        rcases Nat.lt_or_ge e.on ops.size with h | h
        · exact h
        · rw [Array.getD_eq_getD_getElem?, Array.getElem?_eq_none (by omega)] at this; simp at this
      exact (hl _ hlt).1 this
end Go.Vc
/- Part Q: regions that leave their order open, carried out in one order. -/
namespace Go.Vc
open Go.RowKit
variable {P : Program} {n0 : Nat} {r : Option Nat}
theorem map_congr_op {ρ ρ' : Operand → Value} {xs : Array Operand} (h : ∀ x ∈ xs, ρ x = ρ' x) : xs.map ρ = xs.map ρ' := Array.map_congr_left h
theorem exec_congr {ρ ρ' : Operand → Value} {o : Oper} (h : ∀ x ∈ o.op.operands, ρ x = ρ' x) (hs : ∀ cs b, o.op ≠ .select cs b) : execOp ρ o = execOp ρ' o := by
  unfold execOp
  cases ho : o.op with
  | select cs b => exact absurd ho (hs cs b)
  | build t parts =>
    rw [ho] at h
    have : (parts.map fun (i, x) => (i, ρ x)) = parts.map fun (i, x) => (i, ρ' x) := Array.map_congr_left fun q hq => by
      have := h q.2 (by simp only [Op.operands]; simp; exact ⟨q.1, by simpa using hq⟩)
      simp [this]
    simp only [this]
  | buildSlice t n parts =>
    rw [ho] at h
    have : (parts.map fun (i, x) => (i, ρ x)) = parts.map fun (i, x) => (i, ρ' x) := Array.map_congr_left fun q hq => by
      have := h q.2 (by simp only [Op.operands]; simp; exact ⟨q.1, by simpa using hq⟩)
      simp [this]
    simp only [this]
  | makeFunc fn a b =>
    rw [ho] at h
    have h1 : a.map ρ = a.map ρ' := map_congr_op fun x hx => h x (by simp [Op.operands, hx])
    have h2 : b.map ρ = b.map ρ' := map_congr_op fun x hx => h x (by simp [Op.operands, hx])
    simp only [h1, h2]
  | call c =>
    rw [ho] at h
    have h2 : c.args.map ρ = c.args.map ρ' := map_congr_op fun x hx => h x (by simp [Op.operands, Call.operands, hx])
    obtain ⟨callee, args, tys⟩ := c
    cases callee with
    | value f =>
      have h1 := h f (by simp [Op.operands, Call.operands])
      simp only at h2
      simp only [resolve, h1, h2]
    | invoke f m =>
      have h1 := h f (by simp [Op.operands, Call.operands])
      simp only at h2
      simp only [resolve, h1, h2]
    | builtin b =>
      simp only at h2
      simp only [resolve, h2]
  | go c =>
    rw [ho] at h
    have h2 : c.args.map ρ = c.args.map ρ' := map_congr_op fun x hx => h x (by simp [Op.operands, Call.operands, hx])
    obtain ⟨callee, args, tys⟩ := c
    cases callee with
    | value f =>
      have h1 := h f (by simp [Op.operands, Call.operands])
      simp only at h2
      simp only [resolve, h1, h2]
    | invoke f m =>
      have h1 := h f (by simp [Op.operands, Call.operands])
      simp only at h2
      simp only [resolve, h1, h2]
    | builtin b =>
      simp only at h2
      simp only [resolve, h2]
  | defer c =>
    rw [ho] at h
    have h2 : c.args.map ρ = c.args.map ρ' := map_congr_op fun x hx => h x (by simp [Op.operands, Call.operands, hx])
    obtain ⟨callee, args, tys⟩ := c
    cases callee with
    | value f =>
      have h1 := h f (by simp [Op.operands, Call.operands])
      simp only at h2
      simp only [resolve, h1, h2]
    | invoke f m =>
      have h1 := h f (by simp [Op.operands, Call.operands])
      simp only at h2
      simp only [resolve, h1, h2]
    | builtin b =>
      simp only at h2
      simp only [resolve, h2]
  | makeMap t rs =>
    rw [ho] at h
    cases rs with
    | none => rfl
    | some x => simp only [Option.map_some, h x (by simp [Op.operands])]
  | slice t x l hh m =>
    rw [ho] at h
    have h1 := h x (by simp [Op.operands])
    have h2 : l.map ρ = l.map ρ' := by cases l with | none => rfl | some y => simp only [Option.map_some, h y (by simp [Op.operands])]
    have h3 : hh.map ρ = hh.map ρ' := by cases hh with | none => rfl | some y => simp only [Option.map_some, h y (by simp [Op.operands])]
    have h4 : m.map ρ = m.map ρ' := by cases m with | none => rfl | some y => simp only [Option.map_some, h y (by simp [Op.operands])]
    simp only [h1, h2, h3, h4]
  | nilCheck x =>
    rw [ho] at h
    have h1 := h x (by simp [Op.operands])
    simp only [h1]
  | _ =>
    rw [ho] at h
    all_goals first
      | rfl
      | (simp only [Op.operands, List.mem_toArray, List.mem_cons, List.not_mem_nil, or_false, forall_eq_or_imp, forall_eq] at h
         simp only [h])
/-- An operation from activations that agree on what it reads. -/
theorem wpIn_transfer {o : Oper} {a a2 : Act} {b : Option Nat} {w : World} {next next2 : Act → World → Prop} {Q2 : Exit → Act → World → Prop} (hd : ∀ c, o.op ≠ .defer c) (hs : ∀ cs b, o.op ≠ .select cs b) (hdf : a.defers = a2.defers)
    (hev : ∀ x ∈ o.op.operands, a.eval x = a2.eval x) (h : o.wpIn (FW b) 0 P a w next (fun _ _ _ => False)) (hn : ∀ v ds w', next (Act.put { a with defers := ds } o.dst v) w' → next2 (Act.put { a2 with defers := ds } o.dst v) w') : o.wpIn (FW b) 0 P a2 w next2 Q2 := by
  refine ⟨fun _ _ => trivial, ?_⟩
  have h := h.2
  rw [Oper.semAt_eq _ _ _ hd] at h ⊢
  rw [← exec_congr hev hs]
  have hn0 : ∀ v w', next (a.put o.dst v) w' → next2 (a2.put o.dst v) w' := fun v w' h => by
    have := hn v a.defers w' h
    rw [hdf] at this
    exact this
  cases hr : (execOp a.eval o).run P w with
  | ok x w' =>
    rw [hr] at h
    cases x with
    | value v => exact hn0 _ _ h
    | skip => exact hn0 _ _ h
    | defer d =>
      have := hn undef (d :: a.defers) w' h
      rw [hdf] at this
      exact this
    | enter f args =>
      refine ⟨FW_depth, h.2.mono fun e w2 he => ?_⟩
      cases e with
      | returned v => exact hn0 _ _ he
      | panicked ch => exact he.elim
      | outgrown => obtain ⟨_, _, hf⟩ := he; exact hf.elim
    | row f args => exact ⟨FW_depth, h.2.mono fun v w2 he => hn0 _ _ he⟩
    | round l f tmps assign body =>
      refine ⟨FW_depth, h.2.mono fun e w2 he => ?_⟩
      cases e with
      | returned v => exact hn0 _ _ he
      | panicked ch => exact he.elim
      | outgrown => obtain ⟨_, _, hf⟩ := he; exact hf.elim
    | _ => exact h.elim
  | halt x w' =>
    rw [hr] at h
    cases x with
    | panic v => exact h.elim
    | _ => exact h.elim
end Go.Vc
namespace Go.Vc
open Go.RowKit
variable {P : Program} {n0 : Nat} {r : Option Nat}
/-! ### The canonical order -/
def dstOf (ops : Array Oper) (i : Nat) : Option Tmp := (ops[i]?).bind (·.dst)
/-- May the operation be carried out, as far as its guard goes? -/
def gate (ops : Array Oper) (st : St) (o : Oper) : Option Bool := match o.guard with
  | none => some true
  | some (j, want) => match dstOf ops j with
    | some t => match lk t st.s with
      | some (.pv (.lit (.bool b))) => some (b == want)
      | some (.tup []) => some false
      | _ => none
    | none => none
def opTmps (ops : Array Oper) (o : Oper) : List Tmp :=
  (o.op.operands.toList.filterMap fun x => match x with | .tmp t => some t | _ => none) ++ (match o.guard with | some (j, _) => (dstOf ops j).toList | none => [])
def reach (ops : Array Oper) : Nat → List Nat → List Nat
  | 0, l => l
  | n + 1, l => reach ops n (l ++ l.flatMap (predsOf ops)).eraseDups
theorem reach_sub {ops : Array Oper} {D : List Nat} (hD : ∀ i ∈ D, ∀ j ∈ predsOf ops i, j ∈ D) : ∀ (n : Nat) (l : List Nat), (∀ i ∈ l, i ∈ D) → ∀ i ∈ reach ops n l, i ∈ D
  | 0, l, h => h
  | n + 1, l, h => reach_sub hD n _ fun i hi => by
    rw [List.mem_eraseDups, List.mem_append, List.mem_flatMap] at hi
    rcases hi with hi | ⟨j, hj, hi⟩
    · exact h i hi
    · exact hD j (h j hj) i hi
/-- What is looked at once, on the text alone. -/
def eager (ops : Array Oper) (eff : List Nat) : List Nat → Bool
  | [] => true
  | e :: rest => (!eff.contains e || rest.all fun i => (predsOf ops i).any fun j => (e :: rest).contains j) && eager ops eff rest
def drawOk (ops : Array Oper) (eff ord alt : List Nat) : Bool :=
  (validOrd .any ops ord && (validOrd .text ops ord || validOrd .text ops alt) && (validOrd .gc ops ord || validOrd .gc ops alt || !Region.departs ops)) && eager ops eff ord && ord.all (· < ops.size) &&
  (List.range ops.size).all fun i => match ops[i]? with
    | some o => (!(match o.op with | .defer _ => true | .select _ _ => true | _ => false)) && (eff.contains i || o.dst.isSome) &&
      (opTmps ops o).all (fun t => (List.range ops.size).all fun j => dstOf ops j != some t || (predsOf ops i).contains j || eff.contains j) &&
      (List.range ops.size).all (fun j => j == i || o.dst.isNone || dstOf ops j != o.dst)
    | none => true
/-- An operation that only fills its slot, and would do so again. -/
def Stable (P : Program) (n0 : Nat) (r : Option Nat) (ops : Array Oper) (j : Nat) (st : St) : Prop :=
  ∃ o d sv, ops[j]? = some o ∧ o.dst = some d ∧ lk d st.s = some sv ∧ d < st.n ∧
    ((gate ops st o = some true ∧ PWo P n0 r o (fun st' => st' = st.put (some d) sv) st) ∨ (gate ops st o = some false ∧ sv = .tup []))
def PWd (P : Program) (n0 : Nat) (r : Option Nat) (ops : Array Oper) (eff : List Nat) (K : St → Prop) : List Nat → List Nat → St → Prop
  | [], c, st => (∀ j ∈ c, Stable P n0 r ops j st) ∧ K st
  | i :: rest, c, st => if eff.contains i then (∀ j ∈ c, Stable P n0 r ops j st) ∧ ∃ o, ops[i]? = some o ∧ ((gate ops st o = some true ∧
        PWo P n0 r o (fun st' => PWd P n0 r ops eff K rest (c.filter fun j => !(reach ops 6 (predsOf ops i)).contains j) st') st) ∨
        (gate ops st o = some false ∧ st.fits o.dst = true ∧ PWd P n0 r ops eff K rest (c.filter fun j => !(reach ops 6 (predsOf ops i)).contains j) (st.put o.dst (.tup []))))
      else ∃ o d sv, ops[i]? = some o ∧ o.dst = some d ∧ d < st.n ∧ (∀ I φ a w, R I φ st a w → ∃ v, Srel I φ w sv v) ∧ PWd P n0 r ops eff K rest (i :: c) (st.put (some d) sv)
theorem R.same {I φ st a w} (h : R I φ st a w) {st' : St} (hn : st'.n = st.n) (hx : st'.nx = st.nx) (hh : st'.h = st.h) (hd : st'.d = st.d) (hs : ∀ t sv, lk t st'.s = some sv → lk t st.s = some sv) : R I φ st' a w where
  rh := by rw [hx, hh]; exact h.rh
  size := by rw [hn]; exact h.size
  slot := fun t sv ht => h.slot t sv (hs t sv ht)
  dlen := by rw [hd]; exact h.dlen
  dmark := by rw [hd]; exact h.dmark
theorem lk_put {st : St} {d t : Nat} {sv : SV} : lk t (st.put (some d) sv).s = if d = t then some sv else lk t st.s := rfl
/-- What the two activations share. -/
structure Ahead (ops : Array Oper) (c done : List Nat) (a aC : Act) : Prop where
  size : a.tmps.size = aC.tmps.size
  dfs : a.defers = aC.defers
  agree : ∀ t, (∀ j ∈ c, j ∉ done → dstOf ops j ≠ some t) → a.tmps.getD t undef = aC.tmps.getD t undef
theorem gate_wanted {ops : Array Oper} {I φ st w} {a : Act} (hR : R I φ st a w) {o : Oper} {b : Bool} (h : gate ops st o = some b) : Region.wanted o (yielded ops a.tmps) = b := by
  unfold gate at h
  unfold Region.wanted
  split at h
  · rename_i hg; rw [hg]; injection h
  · rename_i j want hg
    rw [hg]
    simp only
    split at h
    · rename_i t ht
      have ht' : (ops[j]?).bind (·.dst) = some t := ht
      split at h
      · rename_i k hk
        injection h with h
        subst h
        have e := (hR.slot t _ hk).lit_inv
        have : yielded ops a.tmps j = some k := by
          unfold yielded
          rw [ht']
          simp only [Option.bind_some]
          rw [Array.getD_eq_getD_getElem?] at e
          cases hx : a.tmps[t]? with
          | none => rw [hx] at e; simp [undef] at e
          | some x => rw [hx] at e; simp only [Option.getD_some] at e; subst e; rfl
        rw [this]
        cases k <;> cases want <;> rfl
      · rename_i hk
        injection h with h
        subst h
        have hs := hR.slot t _ hk
        obtain ⟨vs, e⟩ : ∃ vs, a.tmps.getD t undef = .tuple vs := by
          generalize a.tmps.getD t undef = v at hs
          cases hs with | tup _ vs _ _ => exact ⟨_, rfl⟩
        have : yielded ops a.tmps j = none := by
          unfold yielded
          rw [ht']
          simp only [Option.bind_some]
          rw [Array.getD_eq_getD_getElem?] at e
          cases hx : a.tmps[t]? with
          | none => rfl
          | some x => rw [hx] at e; simp only [Option.getD_some] at e; subst e; rfl
        rw [this]
        rfl
      · cases h
    · cases h
theorem getD_put {a : Act} {d : Option Tmp} {v : Value} {t : Nat} : (a.put d v).tmps.getD t undef = if d = some t ∧ t < a.tmps.size then v else a.tmps.getD t undef := by
  cases d with
  | none => simp [Act.put]
  | some d =>
    simp only [Act.put, Array.getD_eq_getD_getElem?, Option.some.injEq]
    by_cases e : d = t
    · subst e
      by_cases hlt : d < a.tmps.size
      · simp [hlt]
      · simp [hlt]
    · rw [Array.getElem?_setIfInBounds_ne e, if_neg (fun h => e h.1)]
theorem Ahead.put {ops : Array Oper} {c done : List Nat} {a aC : Act} (h : Ahead ops c done a aC) (i : Nat) {d : Option Tmp} (hd : dstOf ops i = d) (v : Value) : Ahead ops c (i :: done) (a.put d v) (aC.put d v) where
  size := by cases d <;> simp [Act.put, h.size]
  dfs := by cases d <;> exact h.dfs
  agree := fun t ht => by
    rw [getD_put, getD_put, h.size]
    by_cases e : d = some t ∧ t < aC.tmps.size
    · rw [if_pos e, if_pos e]
    · rw [if_neg e, if_neg e]
      by_cases e2 : d = some t
      · -- beyond the slots
        have hlt : ¬ t < aC.tmps.size := fun h => e ⟨e2, h⟩
        rw [Array.getD_eq_getD_getElem?, Array.getD_eq_getD_getElem?, Array.getElem?_eq_none (by rw [h.size]; exact Nat.le_of_not_lt hlt), Array.getElem?_eq_none (Nat.le_of_not_lt hlt)]
      · refine h.agree t fun j hj hn => ?_
        by_cases e3 : j = i
        · subst e3; rw [hd]; exact e2
        · exact ht j hj (by simp [e3, hn])
theorem Ahead.eval {ops : Array Oper} {c done : List Nat} {a aC : Act} (h : Ahead ops c done a aC) {x : Operand} (hx : ∀ t, x = .tmp t → ∀ j ∈ c, j ∉ done → dstOf ops j ≠ some t) : aC.eval x = a.eval x := by
  cases x with
  | tmp t => exact (h.agree t (hx t rfl)).symm
  | _ => rfl
end Go.Vc
/- Part R: a region that leaves its order open. -/
namespace Go.Vc
open Go.RowKit
variable {P : Program} {n0 : Nat} {r : Option Nat}
/-- What the look at the text gives. -/
structure DrawOk (ops : Array Oper) (eff ord : List Nat) : Prop where
  cover : ∀ i, i < ops.size → i ∈ ord
  inb : ∀ i ∈ ord, i < ops.size
  eag : eager ops eff ord = true
  nd : ∀ (i : Nat) (o : Oper), ops[i]? = some o → (∀ c, o.op ≠ .defer c) ∧ ∀ cs b, o.op ≠ .select cs b
  dst : ∀ (i : Nat) (o : Oper), ops[i]? = some o → i ∉ eff → o.dst ≠ none
  rd : ∀ (i : Nat) (o : Oper), ops[i]? = some o → ∀ t ∈ opTmps ops o, ∀ (j : Nat), dstOf ops j = some t → j ∈ predsOf ops i ∨ j ∈ eff
  uniq : ∀ (i : Nat) (o : Oper) (j : Nat), ops[i]? = some o → i ≠ j → o.dst ≠ none → dstOf ops j ≠ o.dst
theorem dstOf_lt {ops : Array Oper} {j : Nat} {t : Tmp} (h : dstOf ops j = some t) : j < ops.size := by
  unfold dstOf at h
  rcases Nat.lt_or_ge j ops.size with h1 | h1
  · exact h1
  · rw [Array.getElem?_eq_none h1] at h; cases h
theorem drawOk_ok {ops : Array Oper} {eff ord alt : List Nat} (h : drawOk ops eff ord alt = true) : DrawOk ops eff ord := by
  simp only [drawOk, Bool.and_eq_true, List.all_eq_true, decide_eq_true_eq] at h
  obtain ⟨⟨⟨⟨⟨h1, _⟩, _⟩, h2⟩, h3⟩, h4⟩ := h
  have hop : ∀ i o, ops[i]? = some o → i ∈ List.range ops.size := fun i o ho => by
    rcases Nat.lt_or_ge i ops.size with h | h
    · simpa using h
    · rw [Array.getElem?_eq_none h] at ho; cases ho
  refine ⟨fun i hi => ?_, h3, h2, fun i o ho => ?_, fun i o ho hn => ?_, fun i o ho t ht j hj => ?_, fun i o j ho hne hd => ?_⟩
  · simp only [validOrd, Bool.and_eq_true, List.all_eq_true] at h1
    simpa using h1.1 i (by simpa using hi)
  · have := h4 i (hop i o ho)
    simp only [ho, Bool.and_eq_true] at this
    have hb := this.1.1.1
    exact ⟨fun c hc => by rw [hc] at hb; simp at hb, fun cs b hc => by rw [hc] at hb; simp at hb⟩
  · have := h4 i (hop i o ho)
    simp only [ho, Bool.and_eq_true, Bool.or_eq_true] at this
    rcases this.1.1.2 with h5 | h5
    · exact absurd (by simpa using h5) hn
    · intro h6; rw [h6] at h5; cases h5
  · have := h4 i (hop i o ho)
    simp only [ho, Bool.and_eq_true, List.all_eq_true, Bool.or_eq_true] at this
    rcases this.1.2 t ht j (by simpa using dstOf_lt hj) with (h5 | h5) | h5
    · rw [hj] at h5; simp at h5
    · exact .inl (by simpa using h5)
    · exact .inr (by simpa using h5)
  · intro hj
    have := h4 i (hop i o ho)
    simp only [ho, Bool.and_eq_true, List.all_eq_true, Bool.or_eq_true] at this
    cases hq : o.dst with
    | none => exact hd hq
    | some t =>
      rw [hq] at hj
      rcases this.2 j (by simpa using dstOf_lt hj) with (h5 | h5) | h5
      · exact hne (show j = i by simpa using h5).symm
      · rw [hq] at h5; cases h5
      · rw [hj, hq] at h5; simp at h5
/-- The activation on which the canonical order has gone on to the next operation that is no mere filling of a slot. -/
theorem advance {ops : Array Oper} {eff ord : List Nat} (ok : DrawOk ops eff ord) {K : St → Prop} : ∀ (rest c : List Nat) (st : St) (aC : Act) (I : Nat → Nat → Prop) (φ : Phi) (w : World) (a : Act) (done : List Nat), PWd P n0 r ops eff K rest c st → R I φ st aC w → Ahead ops c done a aC →
    (∀ i ∈ rest, i ∉ done) → (∀ i, i < ops.size → i ∈ done ∨ i ∈ c ∨ i ∈ rest) → (∀ j ∈ c, j ∉ eff) → eager ops eff rest = true → (∀ j ∈ rest, j < ops.size) →
    ∃ rest' c' st' aC', PWd P n0 r ops eff K rest' c' st' ∧ R I φ st' aC' w ∧ Ahead ops c' done a aC' ∧ (∀ i ∈ rest', i ∉ done) ∧ (∀ i, i < ops.size → i ∈ done ∨ i ∈ c' ∨ i ∈ rest') ∧ (∀ j ∈ c', j ∉ eff) ∧ eager ops eff rest' = true ∧ (∀ j ∈ rest', j < ops.size) ∧
      st'.n = st.n ∧ st'.nx = st.nx ∧ st'.h = st.h ∧ st'.d = st.d ∧ (rest' = [] ∨ ∃ i r', rest' = i :: r' ∧ i ∈ eff)
  | [], c, st, aC, I, φ, w, a, done, h1, h2, h3, h4, h5, h6, h7, h8 => ⟨[], c, st, aC, h1, h2, h3, h4, h5, h6, h7, h8, rfl, rfl, rfl, rfl, .inl rfl⟩
  | i :: rest, c, st, aC, I, φ, w, a, done, h1, h2, h3, h4, h5, h6, h7, h8 => by
    by_cases he : i ∈ eff
    · exact ⟨i :: rest, c, st, aC, h1, h2, h3, h4, h5, h6, h7, h8, rfl, rfl, rfl, rfl, .inr ⟨i, rest, rfl, he⟩⟩
    · have he' : eff.contains i = false := by simpa using he
      unfold PWd at h1
      rw [he', if_neg (by simp)] at h1
      obtain ⟨o, d, sv, ho, hd, hlt, hreal, hk⟩ := h1
      obtain ⟨v, hv⟩ := hreal I φ aC w h2
      have hR := h2.put (d := some d) (by simpa [St.fits] using hlt) hv
      have hdo : dstOf ops i = some d := by unfold dstOf; rw [ho]; exact hd
      have hA : Ahead ops (i :: c) done a (aC.put (some d) v) := ⟨by simp [Act.put, h3.size], h3.dfs, fun t ht => by
        rw [getD_put, if_neg (fun h => ht i (by simp) (h4 i (by simp)) (by rw [hdo]; exact h.1))]
        exact h3.agree t fun j hj hn => ht j (by simp [hj]) hn⟩
      obtain ⟨rest', c', st', aC', g1, g2, g3, g4, g5, g6, g7, g8, g9, g10, g11, g12, g13⟩ := advance ok rest (i :: c) (st.put (some d) sv) _ I φ w a done hk hR hA (fun j hj => h4 j (by simp [hj])) (fun j hj => by
        rcases h5 j hj with h | h | h
        · exact .inl h
        · exact .inr (.inl (by simp [h]))
        · rcases List.mem_cons.1 h with rfl | h
          · exact .inr (.inl (by simp))
          · exact .inr (.inr h)) (fun j hj => by
        rcases List.mem_cons.1 hj with rfl | hj
        · exact he
        · exact h6 j hj) (by simp only [eager, Bool.and_eq_true] at h7; exact h7.2) (fun j hj => h8 j (by simp [hj]))
      exact ⟨rest', c', st', aC', g1, g2, g3, g4, g5, g6, g7, g8, g9, g10, g11, g12, g13⟩
theorem draw_run {ops : Array Oper} {eff ord : List Nat} (ok : DrawOk ops eff ord) {K : St → Prop} (hr : ∀ i, r = some i → i < n0) (b : Option Nat) (Q' : Exit → Act → World → Prop) (Ha : List (Nat × ABlk)) (Ia : Nat → Nat → Prop) (φa : Phi) (wa : World)
    (hq : ∀ a' w', Kp n0 K Ia φa Ha wa a' w' → Q' .normal a' w') {done rest : List Nat} (hlin : Lin ops done rest) :
    ∀ (orest c : List Nat) (st : St) (a aC : Act) (I : Nat → Nat → Prop) (φ : Phi) (w : World), (∀ i ∈ done, ∀ j ∈ predsOf ops i, j ∈ done) → PWd P n0 r ops eff K orest c st → R I φ st aC w → Ahead ops c done a aC → (∀ i ∈ orest, i ∉ done) → (∀ i, i < ops.size → i ∈ done ∨ i ∈ c ∨ i ∈ orest) →
      (∀ j ∈ c, j ∉ eff) → eager ops eff orest = true → (∀ j ∈ orest, j < ops.size) → (∀ j ∈ c, j < ops.size ∨ True) → n0 ≤ st.nx → Ev n0 Ia φa Ha wa I φ st.h w → rnd φ r b → wpOpsIn (FW b) 0 P ops Q' rest a w := by
  induction hlin with
  | nil done hall =>
    intro orest c st a aC I φ w _ hP hR hA h4 h5 h6 h7 h8 _ hn hev hb
    obtain ⟨rest', c', st', aC', g1, g2, g3, g4, g5, g6, g7, g8, g9, g10, g11, g12, g13⟩ := advance ok orest c st aC I φ w a done hP hR hA h4 h5 h6 h7 h8
    have hnil : rest' = [] := by
      rcases g13 with h | ⟨i, r', rfl, _⟩
      · exact h
      · exact absurd (hall i (g8 i (by simp))) (g4 i (by simp))
    subst hnil
    have hag : ∀ t, a.tmps.getD t undef = aC'.tmps.getD t undef := fun t => g3.agree t fun j hj hn hd => hn (hall j (dstOf_lt hd))
    have hRa : R I φ st' a w := ⟨g2.rh, by rw [g3.size]; exact g2.size, fun t sv ht => by rw [hag]; exact g2.slot t sv ht, by rw [g3.dfs]; exact g2.dlen, fun k i hk => by
      obtain ⟨b, c, e1, e2⟩ := g2.dmark k i hk
      exact ⟨b, c, e1, by rw [g3.dfs]; exact e2⟩⟩
    exact hq a w ⟨st', I, φ, g1.2, hRa, by rw [g10]; exact hn, by rw [g11]; exact hev⟩
  | cons done i rest hi hnd hp hl ih =>
    intro orest c st a aC I φ w hcl hP hR hA h4 h5 h6 h7 h8 _ hn hev hb
    obtain ⟨orest, c, st', aC', hP, hR, hA, h4, h5, h6, h7, h8, e9, e10, e11, e12, hhead⟩ := advance ok orest c st aC I φ w a done hP hR hA h4 h5 h6 h7 h8
    have hn : n0 ≤ st'.nx := by rw [e10]; exact hn
    have hev : Ev n0 Ia φa Ha wa I φ st'.h w := by rw [e11]; exact hev
    clear e9 e10 e11 e12
    have hcl' : ∀ k ∈ i :: done, ∀ j ∈ predsOf ops k, j ∈ i :: done := fun k hk j hj => by
      rcases List.mem_cons.1 hk with rfl | hk
      · exact List.mem_cons_of_mem _ (hp j hj)
      · exact List.mem_cons_of_mem _ (hcl k hk j hj)
    have ho : ops[i]? = some ops[i] := Array.getElem?_eq_getElem hi
    obtain ⟨o, ho'⟩ : ∃ o, o = ops[i] := ⟨_, rfl⟩
    rw [← ho'] at ho
    clear ho'
    -- what the operation reads is the same on both sides
    have hread : ∀ t ∈ opTmps ops o, a.tmps.getD t undef = aC'.tmps.getD t undef := fun t ht => hA.agree t fun j hj hjn hd => by
      rcases ok.rd i o ho t ht j hd with h | h
      · exact hjn (hp j h)
      · exact h6 j hj h
    have hops : ∀ x ∈ o.op.operands, aC'.eval x = a.eval x := fun x hx => by
      cases x with
      | tmp t => exact (hread t (by unfold opTmps; simp only [List.mem_append, List.mem_filterMap]; exact .inl ⟨.tmp t, by simpa using hx, rfl⟩)).symm
      | _ => rfl
    have hyield : yielded ops a.tmps = yielded ops a.tmps := rfl
    have hw : ∀ k, gate ops st' o = some k → Region.wanted o (yielded ops a.tmps) = k := fun k hk => by
      rw [← gate_wanted hR hk]
      cases hg : o.guard with
      | none => simp [Region.wanted, hg]
      | some q =>
        obtain ⟨j, want⟩ := q
        simp only [Region.wanted, hg]
        congr 1
        unfold yielded
        cases hd : (ops[j]?).bind (·.dst) with
        | none => rfl
        | some t =>
          have := hread t (by unfold opTmps; rw [hg]; simp only [List.mem_append]; right; show t ∈ (dstOf ops j).toList; unfold dstOf; rw [hd]; simp)
          rw [Array.getD_eq_getD_getElem?, Array.getD_eq_getD_getElem?] at this
          simp only [Option.bind_some]
          cases hx : a.tmps[t]? with
          | none =>
            rw [hx] at this
            cases hy : aC'.tmps[t]? with
            | none => rfl
            | some y =>
              rw [Array.getElem?_eq_none_iff] at hx
              have := (Array.getElem?_eq_some_iff.1 hy).1
              have := hA.size
              omega
          | some x =>
            rw [hx] at this
            cases hy : aC'.tmps[t]? with
            | none =>
              rw [Array.getElem?_eq_none_iff] at hy
              have := (Array.getElem?_eq_some_iff.1 hx).1
              have := hA.size
              omega
            | some y => rw [hy] at this; simp only [Option.getD_some] at this; rw [this]
    simp only [wpOpsIn, ho]
    by_cases hic : i ∈ c
    · -- an operation that the canonical order has carried out already
      have hst : ∀ j ∈ c, Stable P n0 r ops j st' := by
        rcases hhead with rfl | ⟨e, r', rfl, he⟩
        · exact hP.1
        · unfold PWd at hP
          rw [if_pos (by simpa using he)] at hP
          exact hP.1
      obtain ⟨o2, d, sv, ho2, hd, hlk, hdn, hrun⟩ := hst i hic
      rw [ho] at ho2; cases ho2
      have hdo : dstOf ops i = some d := by unfold dstOf; rw [ho]; exact hd
      rcases hrun with ⟨hg, hrun⟩ | ⟨hg, rfl⟩
      · rw [if_pos (hw true hg)]
        refine wpIn_transfer (ok.nd i o ho).1 (ok.nd i o ho).2 hA.dfs.symm hops (hrun I φ aC' w b hR hn hr hb (fun a' w' => Kp n0 (fun s => s = st'.put (some d) sv) I φ st'.h w a' w') (fun _ _ _ => False) fun a' w' k => k) fun v ds w' hk => ?_
        obtain ⟨s, I', φ', rfl, hR', hn', hev'⟩ := hk
        rw [hd] at hR' ⊢
        have hR2 : R I' φ' st' (Act.put { aC' with defers := ds } (some d) v) w' := hR'.same rfl rfl rfl rfl fun t sv' ht => by
          rw [lk_put]
          by_cases e : d = t
          · subst e; rw [hlk] at ht; rw [if_pos rfl]; exact ht
          · rw [if_neg e]; exact ht
        have hA0 : Ahead ops c done { a with defers := ds } { aC' with defers := ds } := ⟨hA.size, rfl, hA.agree⟩
        exact ih orest c st' _ _ I' φ' w' hcl' hP hR2 (hA0.put i hdo v) (fun j hj hm => by
          rcases List.mem_cons.1 hm with rfl | hm
          · exact absurd hj (by
              intro hj'
              rcases hhead with rfl | ⟨e, r', rfl, he⟩
              · simp at hj'
              · have hie : j ∉ eff := h6 j hic
                rcases List.mem_cons.1 hj' with rfl | hj''
                · exact hie he
                · -- it would wait for something that has not been done
                  simp only [eager, Bool.and_eq_true, Bool.or_eq_true, Bool.not_eq_true'] at h7
                  rcases h7.1 with h | h
                  · have : eff.contains e = true := by simpa using he
                    rw [this] at h; cases h
                  · have := List.all_eq_true.1 h j hj''
                    obtain ⟨k, hk1, hk2⟩ := List.any_eq_true.1 this
                    exact h4 k (by simpa using hk2) (hp k hk1))
          · exact h4 j hj hm) (fun j hj => by
          rcases h5 j hj with h | h | h
          · exact .inl (by simp [h])
          · exact .inr (.inl h)
          · exact .inr (.inr h)) h6 h7 h8 (fun _ _ => .inr trivial) hn (hev.trans hev') (rnd_ev hev' hr hb)
      · rw [if_neg (by rw [hw false hg]; simp)]
        refine ⟨fun _ _ => trivial, ?_⟩
        rw [hd]
        have hR2 : R I φ st' (aC'.put (some d) undef) w := (hR.put (d := some d) (by simpa [St.fits] using hdn) srel_undef).same rfl rfl rfl rfl fun t sv' ht => by
          rw [lk_put]
          by_cases e : d = t
          · subst e; rw [hlk] at ht; rw [if_pos rfl]; exact ht
          · rw [if_neg e]; exact ht
        exact ih orest c st' _ _ I φ w hcl' hP hR2 (hA.put i hdo undef) (fun j hj hm => by
          rcases List.mem_cons.1 hm with rfl | hm
          · exact absurd hj (by
              intro hj'
              rcases hhead with rfl | ⟨e, r', rfl, he⟩
              · simp at hj'
              · have hie : j ∉ eff := h6 j hic
                rcases List.mem_cons.1 hj' with rfl | hj''
                · exact hie he
                · simp only [eager, Bool.and_eq_true, Bool.or_eq_true, Bool.not_eq_true'] at h7
                  rcases h7.1 with h | h
                  · have : eff.contains e = true := by simpa using he
                    rw [this] at h; cases h
                  · have := List.all_eq_true.1 h j hj''
                    obtain ⟨k, hk1, hk2⟩ := List.any_eq_true.1 this
                    exact h4 k (by simpa using hk2) (hp k hk1))
          · exact h4 j hj hm) (fun j hj => by
          rcases h5 j hj with h | h | h
          · exact .inl (by simp [h])
          · exact .inr (.inl h)
          · exact .inr (.inr h)) h6 h7 h8 (fun _ _ => .inr trivial) hn hev hb
    · -- the next operation of the canonical order
      have hio : i ∈ orest := by
        rcases h5 i hi with h | h | h
        · exact absurd h hnd
        · exact absurd h hic
        · exact h
      obtain ⟨e, r', rfl, he⟩ : ∃ e r', orest = e :: r' ∧ e ∈ eff := by
        rcases hhead with rfl | ⟨e, r', rfl, he⟩
        · simp at hio
        · exact ⟨e, r', rfl, he⟩
      have hie : i = e := by
        rcases List.mem_cons.1 hio with h | h
        · exact h
        · exfalso
          simp only [eager, Bool.and_eq_true, Bool.or_eq_true, Bool.not_eq_true'] at h7
          rcases h7.1 with h' | h'
          · have : eff.contains e = true := by simpa using he
            rw [this] at h'; cases h'
          · have := List.all_eq_true.1 h' i h
            obtain ⟨k, hk1, hk2⟩ := List.any_eq_true.1 this
            exact h4 k (by simpa using hk2) (hp k hk1)
      subst hie
      unfold PWd at hP
      rw [if_pos (by simpa using he)] at hP
      obtain ⟨_, o2, ho2, hrun⟩ := hP
      rw [ho] at ho2; cases ho2
      have hdo : dstOf ops i = o.dst := by unfold dstOf; rw [ho]; rfl
      have hin : ∀ j ∈ reach ops 6 (predsOf ops i), j ∈ i :: done := reach_sub hcl' 6 _ fun j hj => List.mem_cons_of_mem _ (hp j hj)
      have hsub : ∀ j, j ∈ c → j ∉ i :: done → j ∈ c.filter fun j => !(reach ops 6 (predsOf ops i)).contains j := fun j hj hjn => by
        rw [List.mem_filter]
        refine ⟨hj, ?_⟩
        have : ¬ j ∈ reach ops 6 (predsOf ops i) := fun h => hjn (hin j h)
        simpa using this
      have q4 : ∀ j ∈ r', j ∉ i :: done := fun j hj hm => by
        rcases List.mem_cons.1 hm with rfl | hm
        · -- it would come twice
          simp only [eager, Bool.and_eq_true, Bool.or_eq_true, Bool.not_eq_true'] at h7
          rcases h7.1 with h' | h'
          · have : eff.contains j = true := by simpa using he
            rw [this] at h'; cases h'
          · have := List.all_eq_true.1 h' j hj
            obtain ⟨k, hk1, hk2⟩ := List.any_eq_true.1 this
            exact h4 k (by simpa using hk2) (hp k hk1)
        · exact h4 j (by simp [hj]) hm
      have q5 : ∀ j, j < ops.size → j ∈ i :: done ∨ j ∈ (c.filter fun j => !(reach ops 6 (predsOf ops i)).contains j) ∨ j ∈ r' := fun j hj => by
        rcases h5 j hj with h | h | h
        · exact .inl (by simp [h])
        · by_cases hjn : j ∈ i :: done
          · exact .inl hjn
          · exact .inr (.inl (hsub j h hjn))
        · rcases List.mem_cons.1 h with rfl | h
          · exact .inl (by simp)
          · exact .inr (.inr h)
      have q7 : eager ops eff r' = true := by simp only [eager, Bool.and_eq_true] at h7; exact h7.2
      rcases hrun with ⟨hg, hrun⟩ | ⟨hg, hfit, hrun⟩
      · rw [if_pos (hw true hg)]
        refine wpIn_transfer (ok.nd i o ho).1 (ok.nd i o ho).2 hA.dfs.symm hops (hrun I φ aC' w b hR hn hr hb (fun a' w' => Kp n0 _ I φ st'.h w a' w') (fun _ _ _ => False) fun a' w' k => k) fun v ds w' hk => ?_
        obtain ⟨s, I', φ', hP', hR', hn', hev'⟩ := hk
        have hA0 : Ahead ops c done { a with defers := ds } { aC' with defers := ds } := ⟨hA.size, rfl, hA.agree⟩
        have hA1 := hA0.put i hdo v
        exact ih r' _ s _ _ I' φ' w' hcl' hP' hR' ⟨hA1.size, hA1.dfs, fun t ht => hA1.agree t fun j hj hjn => ht j (hsub j hj hjn) hjn⟩ q4 q5 (fun j hj => h6 j (List.mem_filter.1 hj).1) q7 (fun j hj => h8 j (by simp [hj])) (fun _ _ => .inr trivial) hn' (hev.trans hev') (rnd_ev hev' hr hb)
      · rw [if_neg (by rw [hw false hg]; simp)]
        refine ⟨fun _ _ => trivial, ?_⟩
        have hA1 := hA.put i hdo undef
        have hRp := hR.put hfit (srel_undef (I := I) (φ := φ) (w := w))
        have hh : (st'.put o.dst (.tup [])).h = st'.h := by cases o.dst <;> rfl
        exact ih r' _ _ _ _ I φ w hcl' hrun hRp ⟨hA1.size, hA1.dfs, fun t ht => hA1.agree t fun j hj hjn => ht j (hsub j hj hjn) hjn⟩ q4 q5 (fun j hj => h6 j (List.mem_filter.1 hj).1) q7 (fun j hj => h8 j (by simp [hj])) (fun _ _ => .inr trivial) (by cases o.dst <;> exact hn) (by rw [hh]; exact hev) hb
theorem sched_lin {ops : Array Oper} {ord o2 o3 : List Nat} (h1 : validOrd .any ops ord = true) (h2 : validOrd .text ops o2 = true) (h3 : (validOrd .gc ops o3 || !Region.departs ops) = true) (m : Bool) (t : Nat) : ∃ rest, Region.schedule m ops t = rest ∧ Lin ops [] rest := by
  have key : ∀ (md : Region.Mode) (ord : List Nat), (∀ e, Region.binds .any e = true → Region.binds md e = true) → validOrd md ops ord = true → ∀ t, ∃ rest, Region.linearise md ops t = rest ∧ Lin ops [] rest := by
    intro md ord hany hv t
    obtain ⟨rest, g1, g2⟩ := go_lin md hany ops ord hv ops.size t (Array.replicate ops.size false) [] [] (by simp) (fun i hi => by simp [Array.getD_eq_getD_getElem?, hi]) (by
      have := List.countP_le_length (p := fun i => !(Array.replicate ops.size false).getD i false) (l := List.range ops.size)
      simpa using this)
    exact ⟨rest, by unfold Region.linearise; rw [g1]; simp, g2⟩
  have b1 : ∀ e, Region.binds .any e = true → Region.binds .text e = true := fun e h => by
    unfold Region.binds at h ⊢; split at h <;> simp_all
  have b2 : ∀ e, Region.binds .any e = true → Region.binds .gc e = true := fun e h => by
    unfold Region.binds at h ⊢; split at h <;> simp_all
  unfold Region.schedule
  split
  · exact key .any ord (fun _ h => h) h1 t
  · rename_i hc
    have hdep : Region.departs ops = true := by
      cases hq : Region.departs ops with
      | true => rfl
      | false => rw [hq] at hc; simp at hc
    rw [hdep] at h3
    simp only [Bool.not_true, Bool.or_false] at h3
    split
    · exact key .text o2 b1 h2 _
    · exact key .gc o3 b2 h3 _
/-- **A region that leaves its order open: one order stands for all.** -/
theorem pw_draw {i : Nat} {ops : Array Oper} {Q : Exit → St → Prop} {st : St} (eff ord alt : List Nat) (hok : drawOk ops eff ord alt = true) (h : PWd P n0 r ops eff (Q .normal) ord [] st) : PW P n0 r (.region i ops true) Q st := by
  intro I φ a w l hR hn hr hl
  refine wpIn_region_draw fun t => ?_
  have ok := drawOk_ok hok
  have hok' := hok
  simp only [drawOk, Bool.and_eq_true] at hok'
  obtain ⟨o2, ho2⟩ : ∃ o2, validOrd .text ops o2 = true := by
    have := hok'.1.1.1.1.2
    rcases Bool.or_eq_true_iff.1 this with h | h
    · exact ⟨_, h⟩
    · exact ⟨_, h⟩
  obtain ⟨o3, ho3⟩ : ∃ o3, (validOrd .gc ops o3 || !Region.departs ops) = true := by
    have := hok'.1.1.1.2
    cases h1 : validOrd .gc ops ord with
    | true => exact ⟨ord, by rw [h1]; rfl⟩
    | false =>
      rw [h1] at this
      exact ⟨alt, by simpa using this⟩
  obtain ⟨rest, hs, hlin⟩ := sched_lin hok'.1.1.1.1.1 ho2 ho3 (P.follows .mixedOrders) t
  rw [hs]
  have hR' : R I φ st a { w with drawn := w.drawn + 1 } := hR.world rfl
  have hev : Ev n0 I φ st.h w I φ st.h { w with drawn := w.drawn + 1 } := ⟨rfl, rfl, rfl, Nat.le_succ _, Nat.le_refl _, fun _ _ h => h, fun _ _ _ => rfl, fun _ h => .inl h, fun _ _ h => .inl h, fun _ _ _ _ h => h, fun _ _ _ => rfl, fun _ _ h => h⟩
  exact draw_run ok hr l _ st.h I φ w (fun a' w' k => k) hlin ord [] st a a I φ _ (fun i hi => by simp at hi) h hR' ⟨rfl, rfl, fun _ _ => rfl⟩ (fun i _ h => by simp at h) (fun i hi => .inr (.inr (ok.cover i hi))) (fun j hj => by simp at hj) ok.eag ok.inb (fun _ _ => .inr trivial) hn hev hl
end Go.Vc
