import Derived.Test.YtpnpkigicnmopaaGreatDoorL9A
import Derived.Maps.RangeRun
import Derived.Test.YtpnpkigicnmopaaGreatDoorProg
import Derived.KernelRfl
import Derived.Carry
import Derived.ChangeArms
import Derived.ChangeOld
import Derived.DataElems
import Derived.DataReads
import Derived.RowKit
import Derived.ChangeSame
/- The law DenialVariants holds: for every input that its row lets in, the call returns true and each argument reads as before. The row lists three package-level tables, which the card ties to the program's text. -/
set_option linter.unusedVariables false
set_option linter.unusedSimpArgs false
set_option linter.unnecessarySimpa false
set_option linter.all false
/- Part S: calls that share blocks; loops over functions. -/
namespace Go.Vc
open Go.RowKit
variable {P : Program} {n0 : Nat} {r : Option Nat}
theorem lk_append {β : Type} {i : Nat} : ∀ {l m : List (Nat × β)}, lk i (l ++ m) = (lk i l).or (lk i m)
  | [], m => by simp [lk]
  | (k, b) :: l, m => by
    simp only [List.cons_append, lk]
    split
    · rfl
    · exact lk_append
theorem lk_append_left {β : Type} {i : Nat} {b : β} {l m : List (Nat × β)} (h : lk i l = some b) : lk i (l ++ m) = some b := by rw [lk_append, h]; rfl
theorem lk_append_right {β : Type} {i : Nat} {l m : List (Nat × β)} (h : lk i l = none) : lk i (l ++ m) = lk i m := by rw [lk_append, h]; rfl
theorem lk_append_cases {β : Type} {i : Nat} {b : β} {l m : List (Nat × β)} (h : lk i (l ++ m) = some b) : lk i l = some b ∨ (lk i l = none ∧ lk i m = some b) := by
  rw [lk_append] at h
  cases hl : lk i l with
  | none => rw [hl] at h; exact .inr ⟨rfl, h⟩
  | some c => rw [hl] at h; exact .inl h
theorem RH.sub {nx I φ H Hs w} (h : RH nx I φ H w) (hs : ∀ i b, lk i Hs = some b → lk i H = some b) : RH nx I φ Hs w where
  ilt := h.ilt
  dom := h.dom
  blk := fun i b hl => h.blk i b (hs i b hl)
  gen := fun i b g x hl hx => h.gen i b g x (hs i b hl) hx
  mlt := fun i b k hl hm => h.mlt i b k (hs i b hl) hm
  inj := fun i j bi bj b hi hj h1 h2 => h.inj i j bi bj b (hs i bi hi) (hs j bj hj) h1 h2
theorem mut_sub {φ H Hs b} (hs : ∀ i b, lk i Hs = some b → lk i H = some b) (h : Mut φ Hs b) : Mut φ H b := by
  obtain ⟨i, blk, h1, h2⟩ := h
  exact ⟨i, blk, hs i blk h1, h2⟩
theorem Ev.sub {I φ H Hs w I' φ' H' w'} (hs : ∀ i b, lk i Hs = some b → lk i H = some b) (h : Ev n0 I φ Hs w I' φ' H' w') : Ev n0 I φ H w I' φ' H' w' :=
  have hn : ∀ i, lk i H = none → lk i Hs = none := fun i hi => by
    cases hx : lk i Hs with
    | none => rfl
    | some b => rw [hs i b hx] at hi; cases hi
  ⟨h.os, h.tape, h.output, h.drawn, h.size, h.imm, fun b hb hm => h.frm b hb fun k => hm (mut_sub hs k), fun b hb => (h.mprov b hb).imp (mut_sub hs) id, fun b κ hb => (h.iprov b κ hb).imp id (Or.imp (mut_sub hs) id), h.phi,
    fun i hi hl => h.phiF i hi (hn i hl), fun i hi hl => h.keep i hi (hn i hl)⟩
/-- What was no part of the call stands beside what the call leaves. -/
theorem RH.join {nx I φ own Hs w nx' I' φ' H' w'} (h : RH nx I φ (own ++ Hs) w) (hd : ∀ i b, lk i own = some b → lk i Hs = none) (h' : RH nx' I' φ' H' w') (hnx : nx ≤ nx') (hev : Ev nx I φ Hs w I' φ' H' w') :
    RH nx' I' φ' (own ++ H') w' ∧ Ev nx I φ (own ++ Hs) w I' φ' (own ++ H') w' ∧ ∀ i b, lk i own = some b → lk i H' = none := by
  have hR : ∀ i b, lk i Hs = some b → lk i (own ++ Hs) = some b := fun i b hl => by
    cases hx : lk i own with
    | none => rw [lk_append_right hx]; exact hl
    | some c => rw [hd i c hx] at hl; cases hl
  have hL : ∀ i b, lk i own = some b → lk i (own ++ Hs) = some b := fun i b hl => lk_append_left hl
  have hlt : ∀ i b, lk i own = some b → i < nx := fun i b hl => h.lt (hL i b hl)
  have hk : ∀ i b, lk i own = some b → lk i H' = none := fun i b hl => hev.keep i (hlt i b hl) (hd i b hl)
  have hnm : ∀ b κ, I b κ → ¬ Mut φ Hs b := fun b κ hb ⟨i, blk, h1, h2⟩ => (h.mlt i blk b (hR i blk h1) h2).2 κ hb
  have hI : ∀ b κ, I b κ → w'.heap[b]? = w.heap[b]? := fun b κ hb => hev.frm b (h.ilt b _ hb) (hnm b κ hb)
  have hφ : ∀ i g x, φ i g = some x → φ' i g = some x := fun i g x hx => hev.phi i g x (h.dom i g x hx) hx
  have hmo : ∀ i blk b, lk i own = some blk → mblk φ i blk = some b → b < w.heap.size ∧ ¬ Mut φ Hs b ∧ ∀ κ, ¬ I b κ := fun i blk b hl hm => by
    obtain ⟨h1, h2⟩ := h.mlt i blk b (hL i blk hl) hm
    refine ⟨h1, ?_, h2⟩
    rintro ⟨j, bj, h3, h4⟩
    have := h.inj i j blk bj b (hL i blk hl) (hR j bj h3) hm h4
    subst this
    rw [hd i blk hl] at h3; cases h3
  have hφ' : ∀ i b, lk i own = some b → φ' i = φ i := fun i b hl => hev.phiF i (hlt i b hl) (hd i b hl)
  have hmu : ∀ i blk, lk i own = some blk → mblk φ' i blk = mblk φ i blk := fun i blk hl => mblk_congr (hφ' i blk hl) blk
  refine ⟨⟨h'.ilt, h'.dom, fun i blk hl => ?_, fun i blk g x hl hx => ?_, fun i blk b hl hm => ?_, fun i j bi bj b hi hj h1 h2 => ?_⟩, ⟨hev.os, hev.tape, hev.output, hev.drawn, hev.size, hev.imm, fun b hb hm => hev.frm b hb fun k => hm (mut_sub hR k), fun b hb => ?_, fun b κ hb => (hev.iprov b κ hb).imp id (Or.imp (mut_sub hR) id), hev.phi, fun i hi hl => ?_, fun i hi hl => ?_⟩, hk⟩
  · rcases lk_append_cases hl with hl | ⟨_, hl⟩
    · exact (h.blk i blk (hL i blk hl)).mono hI hev.imm hφ fun b hb => hev.frm b (hmo i blk b hl hb).1 (hmo i blk b hl hb).2.1
    · exact h'.blk i blk hl
  · rcases lk_append_cases hl with hl | ⟨_, hl⟩
    · rw [hφ' i blk hl] at hx; exact h.gen i blk g x (hL i blk hl) hx
    · exact h'.gen i blk g x hl hx
  · rcases lk_append_cases hl with hl | ⟨_, hl⟩
    · rw [hmu i blk hl] at hm
      obtain ⟨h1, h2, h3⟩ := hmo i blk b hl hm
      refine ⟨Nat.lt_of_lt_of_le h1 hev.size, fun κ hb => ?_⟩
      rcases hev.iprov b κ hb with h4 | h4 | h4
      · exact h3 κ h4
      · exact h2 h4
      · omega
    · exact h'.mlt i blk b hl hm
  · rcases lk_append_cases hi with hi | ⟨_, hi⟩ <;> rcases lk_append_cases hj with hj | ⟨_, hj⟩
    · rw [hmu i bi hi] at h1; rw [hmu j bj hj] at h2
      exact h.inj i j bi bj b (hL _ _ hi) (hL _ _ hj) h1 h2
    · rw [hmu i bi hi] at h1
      obtain ⟨k1, k2, _⟩ := hmo i bi b hi h1
      rcases hev.mprov b ⟨j, bj, hj, h2⟩ with h3 | h3
      · exact absurd h3 k2
      · omega
    · rw [hmu j bj hj] at h2
      obtain ⟨k1, k2, _⟩ := hmo j bj b hj h2
      rcases hev.mprov b ⟨i, bi, hi, h1⟩ with h3 | h3
      · exact absurd h3 k2
      · omega
    · exact h'.inj i j bi bj b hi hj h1 h2
  · obtain ⟨i, blk, hl, hm⟩ := hb
    rcases lk_append_cases hl with hl | ⟨_, hl⟩
    · rw [hmu i blk hl] at hm
      exact .inl ⟨i, blk, hL i blk hl, hm⟩
    · exact (hev.mprov b ⟨i, blk, hl, hm⟩).imp (mut_sub hR) id
  · rw [lk_append] at hl
    cases hx : lk i own with
    | some c => rw [hx] at hl; cases hl
    | none => rw [hx] at hl; exact hev.phiF i hi hl
  · rw [lk_append] at hl ⊢
    cases hx : lk i own with
    | some c => rw [hx] at hl; cases hl
    | none => rw [hx] at hl; simpa using hev.keep i hi hl
/-- How a call's contract ends. -/
def CallPost (nx : Nat) (Q : SV → Nat → List (Nat × ABlk) → Prop) (I : Nat → Nat → Prop) (φ : Phi) (H : List (Nat × ABlk)) (w : World) (e : Ending) (w' : World) : Prop :=
  ∃ v sv nx' H' I' φ', e = .returned v ∧ Q sv nx' H' ∧ RH nx' I' φ' H' w' ∧ nx ≤ nx' ∧ Srel I' φ' w' sv v ∧ Ev nx I φ H w I' φ' H' w'
def OwnQ (own : List (Nat × ABlk)) (Q : SV → Nat → List (Nat × ABlk) → Prop) (sv : SV) (nx' : Nat) (H2 : List (Nat × ABlk)) : Prop :=
  ∃ H', H2 = own ++ H' ∧ Q sv nx' H' ∧ ∀ i b, lk i own = some b → lk i H' = none
theorem CallPost.frame {nx I φ own Hs H w e w' Q} (hRH : RH nx I φ H w) (hsub : ∀ i b, lk i (own ++ Hs) = some b → lk i H = some b) (hd : ∀ i b, lk i own = some b → lk i Hs = none) (h : CallPost nx Q I φ Hs w e w') : CallPost nx (OwnQ own Q) I φ H w e w' := by
  obtain ⟨v, sv, nx', H', I', φ', rfl, hQ, hR', hnx, hs, hev⟩ := h
  obtain ⟨h1, h2, h3⟩ := (hRH.sub hsub).join hd hR' hnx hev
  exact ⟨v, sv, nx', _, I', φ', rfl, ⟨H', rfl, hQ, h3⟩, h1, hnx, hs, h2.sub hsub⟩
theorem sub_right {own Hs H : List (Nat × ABlk)} (hsub : ∀ i b, lk i (own ++ Hs) = some b → lk i H = some b) (hd : ∀ i b, lk i own = some b → lk i Hs = none) : ∀ i b, lk i Hs = some b → lk i H = some b := fun i b hl => hsub i b (by
  cases hx : lk i own with
  | none => rw [lk_append_right hx]; exact hl
  | some c => rw [hd i c hx] at hl; cases hl)
theorem PC.frame {f args nx own Hs H Q} (hsub : ∀ i b, lk i (own ++ Hs) = some b → lk i H = some b) (hd : ∀ i b, lk i own = some b → lk i Hs = none) (h : PC P f args nx Hs Q) : PC P f args nx H (OwnQ own Q) :=
  ⟨h.1, fun I φ w vs hRH hl hs => (h.2 I φ w vs (hRH.sub (sub_right hsub hd)) hl hs).mono fun _ _ hp => CallPost.frame hRH hsub hd hp⟩
/-- The names of a heap lie below the next one. -/
theorem PC.dom {f args nx H Q} (he : Enters P f) (h : (∀ i b, lk i H = some b → i < nx) → PC P f args nx H Q) : PC P f args nx H Q :=
  ⟨he, fun I φ w vs hRH hl hs => (h fun _ _ hl => hRH.lt hl).2 I φ w vs hRH hl hs⟩
theorem PW.dom {c Q} {st : St} (h : (∀ i b, lk i st.h = some b → i < st.nx) → PW P n0 r c Q st) : PW P n0 r c Q st :=
  fun I φ a w l hR => h (fun _ _ hl => hR.rh.lt hl) I φ a w l hR
theorem PWl.dom {ops l K} {st : St} (h : (∀ i b, lk i st.h = some b → i < st.nx) → PWl P n0 r ops l K st) : PWl P n0 r ops l K st :=
  fun I φ a w b hR => h (fun _ _ hl => hR.rh.lt hl) I φ a w b hR
theorem PWs.dom {c l Q} {st : St} (h : (∀ i b, lk i st.h = some b → i < st.nx) → PWs P n0 r (c :: l) Q st) : PWs P n0 r (c :: l) Q st := PW.dom h
/-- What a call leaves, on the caller's side. -/
theorem R.after {I φ st a w nx' I' φ' H' w'} (hR : R I φ st a w) (hR' : RH nx' I' φ' H' w') (hev : Ev st.nx I φ st.h w I' φ' H' w') : R I' φ' { st with nx := nx', h := H' } a w' where
  rh := hR'
  size := hR.size
  slot := fun t sv hl => (hR.slot t sv hl).mono (fun b κ hb => hev.frm b (hR.rh.ilt b κ hb) fun ⟨i, blk, h1, h2⟩ => (hR.rh.mlt i blk b h1 h2).2 κ hb) hev.imm fun i g x hx => hev.phi i g x (hR.rh.dom i g x hx) hx
  dlen := hR.dlen
  dmark := fun k i hk => by
    obtain ⟨b, c, h1, h2⟩ := hR.dmark k i hk
    exact ⟨b, c, hev.phi _ _ _ (hR.rh.dom _ _ _ h1) h1, h2⟩
theorem Ev.less {n0 n1 : Nat} (hn : n0 ≤ n1) {I φ H w I' φ' H' w'} (h : Ev n1 I φ H w I' φ' H' w') : Ev n0 I φ H w I' φ' H' w' :=
  ⟨h.os, h.tape, h.output, h.drawn, h.size, h.imm, h.frm, h.mprov, h.iprov, fun i g x hi => h.phi i g x (by omega), fun i hi => h.phiF i (by omega), fun i hi => h.keep i (by omega)⟩
def capRefs (caps : List (Nat × Nat)) : List SV := caps.map fun q => .ref q.1 q.2
theorem uponIn_callp {o : Oper} {a : Act} {w : World} {b : Option Nat} {c : Call} {f : Nat} {x : Operand} {caps : Array Value} {next : Act → World → Prop} {Q' : Exit → Act → World → Prop}
    (ho : o.op = .call c) (hx : c.callee = .value x) (hv : a.eval x = .func (.func f) #[] caps) (he : Enters P f)
    (h : CallsIn (FW none) 0 P f (c.args.map a.eval ++ caps) w fun e w' => ∃ v, e = .returned v ∧ next (a.put o.dst v) w') : o.wpIn (FW b) 0 P a w next Q' :=
  uponIn_call ho ⟨x, hx, hv, rfl⟩ he h
theorem clos_args {I φ w f caps} {v : Value} (h : Srel I φ w (.clos f caps) v) : ∃ vs : List Value, v = .func (.func f) #[] vs.toArray ∧ vs.length = caps.length ∧ ∀ (j : Nat) sv u, (capRefs caps)[j]? = some sv → vs[j]? = some u → Srel I φ w sv u := by
  cases h with
  | clos _ _ vs hl hc =>
    refine ⟨vs, rfl, hl, fun j sv u hj hu => ?_⟩
    unfold capRefs at hj
    rw [List.getElem?_map] at hj
    obtain ⟨q, hq, rfl⟩ := Option.map_eq_some_iff.1 hj
    obtain ⟨b, c, h1, h2⟩ := hc j q hq
    rw [h2] at hu
    injection hu with hu
    subst hu
    exact .ref _ _ b c h1
theorem rel_append {I φ w} {l m : List SV} {us vs : List Value} (hl : us.length = l.length) (h1 : ∀ (j : Nat) sv u, l[j]? = some sv → us[j]? = some u → Srel I φ w sv u) (h2 : ∀ (j : Nat) sv u, m[j]? = some sv → vs[j]? = some u → Srel I φ w sv u) :
    ∀ (j : Nat) sv u, (l ++ m)[j]? = some sv → (us ++ vs)[j]? = some u → Srel I φ w sv u := fun j sv u hj hu => by
  rcases Nat.lt_or_ge j l.length with h | h
  · rw [List.getElem?_append_left h] at hj
    rw [List.getElem?_append_left (by omega)] at hu
    exact h1 j sv u hj hu
  · rw [List.getElem?_append_right h] at hj
    rw [List.getElem?_append_right (by omega), hl] at hu
    exact h2 _ sv u hj hu
/-- A call of a closure, in the whole heap. -/
theorem pwo_callp {o : Oper} {c : Call} {x : Operand} {f : Nat} {caps : List (Nat × Nat)} {svs : List SV} {st : St} {K : St → Prop} {Qr : SV → Nat → List (Nat × ABlk) → Prop}
    (ho : o.op = .call c) (hx : c.callee = .value x) (hv : st.ev x = some (.clos f caps)) (ha : st.evs c.args.toList = some svs) (hf : st.fits o.dst = true)
    (hC : PC P f (svs ++ capRefs caps) st.nx st.h Qr) (hK : ∀ sv nx' H', Qr sv nx' H' → st.nx ≤ nx' → K (({ st with nx := nx', h := H' } : St).put o.dst sv)) : PWo P n0 r o K st := by
  intro I φ a w b hR hn hr hrb next Q' hq
  obtain ⟨ha1, ha2⟩ := evs_ok hR ha
  obtain ⟨cs, hcv, hcl, hcr⟩ := clos_args (ev_ok hR hv)
  refine uponIn_callp ho hx hcv hC.1 ?_
  have harr : c.args.map a.eval ++ cs.toArray = (c.args.toList.map a.eval ++ cs).toArray := by apply Array.ext'; simp
  rw [harr]
  refine (hC.2 I φ w _ hR.rh (by simp [ha1, capRefs, hcl]) (rel_append (by simp [ha1]) ha2 hcr)).mono ?_
  rintro e w' ⟨v, sv, nx', H', I', φ', rfl, hQ, hR', hnx, hs, hev⟩
  have hR2 := hR.after hR' hev
  refine ⟨v, rfl, hq _ _ ⟨_, I', φ', hK sv nx' H' hQ hnx, hR2.put (by cases hd : o.dst <;> simp_all [St.fits]) hs, ?_, ?_⟩⟩
  · cases o.dst <;> exact Nat.le_trans hn hnx
  · have : (({ st with nx := nx', h := H' } : St).put o.dst sv).h = H' := by cases o.dst <;> rfl
    rw [this]
    exact hev.less hn
/-! ### Yield -/
def YC (P : Program) (y : Nat) (args : List SV) (nx : Nat) (H : List (Nat × ABlk)) (Q : SV → Nat → List (Nat × ABlk) → Prop) : Prop :=
  ∀ I φ w (vs : List Value) b c b', RH nx I φ H w → vs.length = args.length → (∀ (j : Nat) sv u, args[j]? = some sv → vs[j]? = some u → Srel I φ w sv u) → φ y 0 = some (some (b, c)) →
    ∃ fn tmps assign body, (Instr.yield b vs.toArray).run P w = .ok (.round b fn tmps assign body) w ∧ RoundIn (FW b') 0 P b fn tmps assign body w (CallPost nx Q I φ H w)
theorem YC.mono {y args nx H} {Q Q' : SV → Nat → List (Nat × ABlk) → Prop} (h : YC P y args nx H Q) (hQ : ∀ sv nx' H', Q sv nx' H' → Q' sv nx' H') : YC P y args nx H Q' :=
  fun I φ w vs b c b' h1 h2 h3 h4 => by
    obtain ⟨fn, tmps, assign, body, g1, g2⟩ := h I φ w vs b c b' h1 h2 h3 h4
    exact ⟨fn, tmps, assign, body, g1, g2.mono fun e w' ⟨v, sv, nx', H', I', φ', e', q, k⟩ => ⟨v, sv, nx', H', I', φ', e', hQ _ _ _ q, k⟩⟩
theorem YC.frame {y args nx own Hs H Q} (hsub : ∀ i b, lk i (own ++ Hs) = some b → lk i H = some b) (hd : ∀ i b, lk i own = some b → lk i Hs = none) (h : YC P y args nx Hs Q) : YC P y args nx H (OwnQ own Q) :=
  fun I φ w vs b c b' hRH h2 h3 h4 => by
    obtain ⟨fn, tmps, assign, body, g1, g2⟩ := h I φ w vs b c b' (hRH.sub (sub_right hsub hd)) h2 h3 h4
    exact ⟨fn, tmps, assign, body, g1, g2.mono fun e w' hp => CallPost.frame hRH hsub hd hp⟩
/-- A call of yield. -/
theorem pwo_yield {o : Oper} {c : Call} {x : Operand} {y : Nat} {svs : List SV} {st : St} {K : St → Prop} {Qr : SV → Nat → List (Nat × ABlk) → Prop}
    (ho : o.op = .call c) (hx : c.callee = .value x) (hv : st.ev x = some (.yld y)) (ha : st.evs c.args.toList = some svs) (hf : st.fits o.dst = true)
    (hC : YC P y svs st.nx st.h Qr) (hK : ∀ sv nx' H', Qr sv nx' H' → st.nx ≤ nx' → K (({ st with nx := nx', h := H' } : St).put o.dst sv)) : PWo P n0 r o K st := by
  intro I φ a w b hR hn hr hrb next Q' hq
  obtain ⟨ha1, ha2⟩ := evs_ok hR ha
  have hev := ev_ok hR hv
  obtain ⟨yb, yc, hyv, hyφ⟩ : ∃ yb yc, a.eval x = .func (.yield yb) #[] #[] ∧ φ y 0 = some (some (yb, yc)) := by
    generalize a.eval x = v at hev
    cases hev with | yld _ yb yc h => exact ⟨yb, yc, rfl, h⟩
  obtain ⟨fn, tmps, assign, body, g1, g2⟩ := hC I φ w (c.args.toList.map a.eval) yb yc b hR.rh (by simp [ha1]) ha2 hyφ
  refine ⟨fun _ _ => trivial, ?_⟩
  rw [Oper.semAt_eq _ _ _ (fun d => by rw [ho]; simp)]
  have harr : c.args.map a.eval = (c.args.toList.map a.eval).toArray := by apply Array.ext'; simp
  have hrun : (execOp a.eval o).run P w = .ok (.round yb fn tmps assign body) w := by
    unfold execOp
    simp only [ho]
    unfold resolve
    simp only [hx, hyv, Deferred.ofValue, Sem.run_bind, Sem.run_pure, Result.andThen_ok, invoke, harr]
    simpa using g1
  rw [hrun]
  have hup : RoundIn (FW b) 0 P yb fn tmps assign body w fun e w' => ∃ v, e = .returned v ∧ next (a.put o.dst v) w' := g2.mono (by
    rintro e w' ⟨v, sv, nx', H', I', φ', rfl, hQ, hR', hnx, hs, hev⟩
    have hR2 := hR.after hR' hev
    refine ⟨v, rfl, hq _ _ ⟨_, I', φ', hK sv nx' H' hQ hnx, hR2.put (by cases hd : o.dst <;> simp_all [St.fits]) hs, ?_, ?_⟩⟩
    · cases o.dst <;> exact Nat.le_trans hn hnx
    · have : (({ st with nx := nx', h := H' } : St).put o.dst sv).h = H' := by cases o.dst <;> rfl
      rw [this]
      exact hev.less hn)
  refine ⟨FW_depth, hup.mono fun e w' ⟨v, e', hn⟩ => ?_⟩
  subst e'
  exact hn
end Go.Vc
/- Part T: the rounds of a loop over a function, and the loop. -/
namespace Go.Vc
open Go.RowKit
variable {P : Program} {n0 : Nat} {r : Option Nat}
def putAll : List (Nat × SV) → List (Nat × SV) → List (Nat × SV)
  | [], s => s
  | q :: l, s => putAll l (q :: s)
/-- How a round's body may end. -/
def RoundQ (L n : Nat) (s : List (Nat × SV)) (ps : Array Nat) (assign body : Code) (d : Nat) (Q : SV → Nat → List (Nat × ABlk) → Prop) (e : Exit) (st : St) : Prop :=
  lk L st.h = some (.lrec n s .busy none ps assign body d) ∧ match e with
    | .normal => Q (.pv (.lit (.bool true))) st.nx (hset L (.lrec n s .ready none ps assign body d) st.h)
    | .ret => Q (.pv (.lit (.bool false))) st.nx (hset L (.lrec n s .done (some .ret) ps assign body d) st.h)
    | .exit i => Q (.pv (.lit (.bool false))) st.nx (hset L (.lrec n s .done (some (.exit i)) ps assign body d) st.h)
    | _ => False
theorem putAll_ok {n : Nat} {I φ w} : ∀ (l : List (Nat × SV)) (us : List Value) (s : List (Nat × SV)) (tms : Array Value), us.length = l.length → tms.size = n → (∀ q ∈ l, q.1 < n) →
    (∀ t sv, lk t s = some sv → Srel I φ w sv (tms.getD t undef)) → (∀ (j : Nat) q u, l[j]? = some q → us[j]? = some u → Srel I φ w q.2 u) →
    (((l.map (·.1)).zip us).foldl (fun t (p, v) => t.setIfInBounds p v) tms).size = n ∧ ∀ t sv, lk t (putAll l s) = some sv → Srel I φ w sv ((((l.map (·.1)).zip us).foldl (fun t (p, v) => t.setIfInBounds p v) tms).getD t undef)
  | [], us, s, tms, hl, hn, hp, hs, hu => ⟨by simpa using hn, fun t sv h => by simpa using hs t sv h⟩
  | q :: l, [], s, tms, hl, hn, hp, hs, hu => by simp at hl
  | q :: l, u :: us, s, tms, hl, hn, hp, hs, hu => by
    have := putAll_ok l us (q :: s) (tms.setIfInBounds q.1 u) (by simpa using hl) (by simpa using hn) (fun q hq => hp q (by simp [hq])) (fun t sv ht => by
      obtain ⟨t0, v0⟩ := q
      simp only [lk] at ht
      by_cases e : t0 = t
      · subst e
        simp only [if_true, Option.some.injEq] at ht
        subst ht
        have hlt : t0 < tms.size := by rw [hn]; exact hp (t0, v0) (by simp)
        have := hu 0 (t0, v0) u rfl rfl
        simpa [Array.getD_eq_getD_getElem?, hlt] using this
      · rw [if_neg e] at ht
        have := hs t sv ht
        simpa [Array.getD_eq_getD_getElem?, Array.getElem?_setIfInBounds_ne e] using this) (fun j q' u' hj hju => hu (j + 1) q' u' (by simpa using hj) (by simpa using hju))
    simpa [putAll] using this
theorem lrec_upd {I φ st a w} (h : R I φ st a w) {L n s stt pend ps assign body d b c} (hl : lk L st.h = some (.lrec n s stt pend ps assign body d)) (hb : φ L 0 = some (some (b, c))) (stt' : LoopState) (pend' : Option Code) :
    ∃ rec : Loop, w.heap[b]? = some (.loop rec) ∧ rec.state = stt ∧ rec.pending = pend ∧ rec.params = ps ∧ rec.assign = assign ∧ rec.body = body ∧
      R I φ (st.upd L (.lrec n s stt' pend' ps assign body d)) a (w.putObj b (.loop { rec with state := stt', pending := pend' })) ∧ Ev n0 I φ st.h w I φ (st.upd L (.lrec n s stt' pend' ps assign body d)).h (w.putObj b (.loop { rec with state := stt', pending := pend' })) := by
  obtain ⟨b', c', fn, tms, bd, cd, h1, hd, h2, h3, h4⟩ := h.rh.blk L _ hl
  rw [hb] at h1; cases h1
  refine ⟨_, h2, rfl, rfl, rfl, rfl, rfl, ?_⟩
  have hlt : b < w.heap.size := (Array.getElem?_eq_some_iff.1 h2).1
  have hmb : ∀ x y z, mblk φ L (.lrec n s x y ps assign body z) = some b := fun x y z => by simp [mblk, hb]
  have hnI : ∀ κ, ¬ I b κ := (h.rh.mlt L _ b hl (hmb _ _ _)).2
  exact h.upd (n0 := n0) (b := b) (blk' := .lrec n s stt' pend' ps assign body d) hl (hmb _ _ _) ⟨rfl, rfl, rfl, Nat.le_refl _, by simp [World.putObj]⟩ (fun k hk => World.putObj_heap_other hk)
    ⟨b, c, fn, tms, bd, cd, hb, hd, World.putObj_heap_same hlt, h3, fun t sv ht => (h4 t sv ht).mono (fun k κ hk => World.putObj_heap_other (fun e : k = b => hnI κ (e ▸ hk))) (fun _ _ h => h) (fun _ _ _ h => h)⟩ rfl (hmb _ _ _)
/-- A round, from its body. -/
theorem yc_of_pw {L n d nx : Nat} {s : List (Nat × SV)} {ps : Array Nat} {assign body : Code} {args : List SV} {H : List (Nat × ABlk)} {Q : SV → Nat → List (Nat × ABlk) → Prop}
    (hl : lk L H = some (.lrec n s .ready none ps assign body d)) (hlen : args.length = ps.size) (hps : ∀ p ∈ ps.toList, p < n)
    (h : PW P nx (some L) assign (fun e st1 => e = .normal ∧ lk L st1.h = some (.lrec n s .ready none ps assign body d) ∧ PW P nx (some L) body (RoundQ L n s ps assign body d Q) (st1.upd L (.lrec n s .busy none ps assign body d)))
      { n := n, nx := nx, s := putAll (ps.toList.zip args) s, h := H, d := [] }) : YC P L args nx H Q := by
  intro I φ w vs b c b' hRH hvl hvs hb
  obtain ⟨b0, c0, fn, tms, bd, cd, h1, hd, h2, h3, h4⟩ := hRH.blk L _ hl
  rw [hb] at h1; cases h1
  refine ⟨fn, _, assign, body, run_yield h2 (by simp; omega), roundIn_of_wpIn trivial ?_⟩
  have hLn : L < nx := hRH.lt hl
  obtain ⟨p1, p2⟩ := putAll_ok (n := n) (I := I) (φ := φ) (w := w) (ps.toList.zip args) vs s tms (by simp; omega) h3 (fun q hq => hps q.1 (List.of_mem_zip hq).1) h4 (fun j q u hj hu => by
    rw [List.getElem?_zip_eq_some] at hj
    exact hvs j q.2 u hj.2 hu)
  have hfold : (ps.zip vs.toArray).foldl (fun tmps (t, a) => tmps.setIfInBounds t a) tms = ((((ps.toList.zip args).map (·.1)).zip vs).foldl (fun t (p, v) => t.setIfInBounds p v) tms) := by
    rw [List.map_fst_zip (by simp; omega), ← Array.foldl_toList, Array.toList_zip]
  have hF : (FW b').inRound b = FW (some b) := rfl
  simp only [hfold, hF]
  have hR0 : R I φ { n := n, nx := nx, s := putAll (ps.toList.zip args) s, h := H, d := [] } { tmps := (((ps.toList.zip args).map (·.1)).zip vs).foldl (fun t (p, v) => t.setIfInBounds p v) tms, defers := [] } w :=
    ⟨hRH, p1, p2, rfl, fun k i hk => by simp at hk⟩
  refine wpIn_mono (h I φ _ w (some b) hR0 (Nat.le_refl _) (fun i hi => by cases hi; exact hLn) ⟨b, c, hb, rfl⟩) ?_
  intro e a1 w1 hp
  cases e with
  | normal =>
    obtain ⟨st1, I1, φ1, ⟨_, hl1, hbody⟩, hR1, hn1, hev1⟩ := hp
    have hb1 := hev1.phi L 0 _ hLn hb
    obtain ⟨rec, g1, g2, g3, _, _, _, hR2, hev2⟩ := lrec_upd (n0 := nx) hR1 hl1 hb1 .busy none
    have hrec : { rec with state := .busy, pending := none } = { rec with state := .busy } := by cases rec; simp_all
    rw [hrec] at hR2 hev2
    refine ⟨_, run_beginRound g1 g2, ?_⟩
    refine wpIn_mono (hbody I1 φ1 a1 _ (some b) hR2 hn1 (fun i hi => by cases hi; exact hLn) ⟨b, c, hb1, rfl⟩) ?_
    intro e2 a2 w2 hp2
    have fin : ∀ (jump : Option Code) (Q2 : St → Prop), (∀ st, Q2 st → lk L st.h = some (.lrec n s .busy none ps assign body d) ∧ Q (.pv (.lit (.bool jump.isNone))) st.nx (hset L (.lrec n s (if jump.isNone then .ready else .done) jump ps assign body d) st.h)) →
        Kp nx Q2 I1 φ1 (st1.upd L (.lrec n s .busy none ps assign body d)).h (w1.putObj b (.loop { rec with state := .busy })) a2 w2 → ∃ v w', (Instr.endRound b jump).run P w2 = .ok v w' ∧ CallPost nx Q I φ H w (.returned v) w' := by
      rintro jump Q2 hQ2 ⟨st2, I2, φ2, hq2, hR3, hn3, hev3⟩
      obtain ⟨hl2, hq⟩ := hQ2 st2 hq2
      have hb2 := hev3.phi L 0 _ hLn hb1
      obtain ⟨rec2, k1, k2, k3, _, _, _, hR4, hev4⟩ := lrec_upd (n0 := nx) hR3 hl2 hb2 (if jump.isNone then .ready else .done) jump
      exact ⟨_, _, run_endRound jump k1, _, _, _, _, I2, φ2, rfl, hq, hR4.rh, hn3, .pv _ _ (.lit _ rfl), ((hev1.trans hev2).trans hev3).trans hev4⟩
    cases e2 with
    | normal => exact fin none _ (fun st h => h) hp2
    | ret => exact fin (some .ret) _ (fun st h => h) hp2
    | exit i => exact fin (some (.exit i)) _ (fun st h => h) hp2
    | goto i => obtain ⟨_, _, _, hq, _⟩ := hp2; exact hq.2.elim
    | panic ch => exact hp2.elim
    | outgrown => exact hp2.elim
  | exit i => obtain ⟨_, _, _, hq, _⟩ := hp; exact absurd hq.1 (by simp)
  | goto i => obtain ⟨_, _, _, hq, _⟩ := hp; exact absurd hq.1 (by simp)
  | ret => obtain ⟨_, _, _, hq, _⟩ := hp; exact absurd hq.1 (by simp)
  | panic ch => exact hp.elim
  | outgrown => exact hp.elim
/-- How the function that is ranged over may leave its caller. -/
def RangeQ (P : Program) (n0 : Nat) (r : Option Nat) (st : St) (L : Nat) (ps : Array Nat) (assign body : Code) (d : Nat) (ds : List Nat) (Q : Exit → St → Prop) (_ : SV) (nx' : Nat) (H' : List (Nat × ABlk)) : Prop :=
  ∃ stt pe, lk L H' = some (.lrec st.n st.s stt pe ps assign body d) ∧ stt ≠ .busy ∧ match pe with
    | none => Q .normal { st with nx := nx', h := hset L (.lrec st.n st.s .exhausted none ps assign body d) H', d := ds }
    | some c => PW P n0 r c Q { st with nx := nx', h := hset L (.lrec st.n st.s .exhausted (some c) ps assign body d) H', d := ds }
theorem range_fin {I φ st w} {a : Act} {st0 : St} {L : Nat} {ps : Array Nat} {assign body : Code} {d : Nat} {Q : Exit → St → Prop} {l : Option Nat} {b c : Nat} {I0 φ0 H0 w0} (hr : ∀ i, r = some i → i < n0) (hev0 : Ev n0 I0 φ0 H0 w0 I φ st.h w) (hll : rnd φ r l)
    (hR : R I φ st a w) (hstn : st.n = st0.n) (hsts : st.s = st0.s) (hsd : n0 ≤ st.nx) (hb : φ L 0 = some (some (b, c))) (hLn : L < st.nx) {e : Ending} {w' : World}
    (hp : CallPost st.nx (RangeQ P n0 r st0 L ps assign body d st.d Q) I φ st.h w e w') : rangePost (FW l) 0 P b (Post n0 Q I0 φ0 H0 w0) a e w' := by
  obtain ⟨v, sv, nx', H', I', φ', rfl, ⟨stt, pe, hL, hbusy, hq⟩, hR', hnx, hs, hev⟩ := hp
  have hR2 := hR.after hR' hev
  obtain ⟨rec, k1, k2, k3, _, _, _, hR4, hev4⟩ := lrec_upd (n0 := n0) hR2 hL (hev.phi L 0 _ hLn hb) .exhausted pe
  have e1 : { rec with state := .exhausted, pending := pe } = { rec with state := .exhausted } := by cases rec; simp_all
  rw [e1] at hR4 hev4
  have hend : (Instr.endLoop b).run P w' = .ok pe (w'.putObj b (.loop { rec with state := .exhausted })) := (run_endLoop (P := P) k1 (by rw [k2]; exact hbusy)).trans (by rw [k3])
  refine ⟨pe, _, hend, ?_⟩
  have hevA := (hev0.trans (hev.less hsd)).trans hev4
  cases pe with
  | none => exact ⟨_, I', φ', hq, by
      have : ({ st with nx := nx', h := H' } : St).upd L (.lrec st0.n st0.s .exhausted none ps assign body d) = { st0 with nx := nx', h := hset L (.lrec st0.n st0.s .exhausted none ps assign body d) H', d := st.d } := by simp [St.upd, hstn, hsts]
      rwa [this] at hR4, Nat.le_trans hsd hnx, hevA⟩
  | some cc =>
    have : ({ st with nx := nx', h := H' } : St).upd L (.lrec st0.n st0.s .exhausted (some cc) ps assign body d) = { st0 with nx := nx', h := hset L (.lrec st0.n st0.s .exhausted (some cc) ps assign body d) H', d := st.d } := by simp [St.upd, hstn, hsts]
    rw [this] at hR4
    exact wpIn_mono (hq I' φ' a _ l hR4 (Nat.le_trans hsd hnx) hr (rnd_ev ((hev.less hsd).trans hev4) hr hll)) (Post.trans hevA)
theorem clos_resolve {I φ w gf caps} {a : Act} {g : Operand} {l : Nat} (hs : Srel I φ w (.clos gf caps) (a.eval g)) (he : Enters P gf) (w1 : World) : ∃ cs : List Value, cs.length = caps.length ∧ (∀ (j : Nat) sv u, (capRefs caps)[j]? = some sv → cs[j]? = some u → Srel I φ w sv u) ∧ ∃ d,
    (resolve a.eval (rangeCall g l) 0).run P w1 = .ok d w1 ∧ (invoke d.target d.args).run P w1 = .ok (.enter gf ((.func (.yield l) #[] #[] :: cs).toArray)) w1 := by
  obtain ⟨cs, hv, hcl, hcr⟩ := clos_args hs
  refine ⟨cs, hcl, hcr, { target := .fn (.func gf) cs.toArray, args := #[.func (.yield l) #[] #[]] }, ?_, ?_⟩
  · simp only [resolve, hv]
    simp [Act.eval, Deferred.ofValue]
  · simp only [invoke]
    have := he ((#[Value.func (.yield l) #[] #[]] : Array Value) ++ cs.toArray) w1
    have e : (#[Value.func (.yield l) #[] #[]] : Array Value) ++ cs.toArray = (Value.func (.yield l) #[] #[] :: cs).toArray := by apply Array.ext'; simp
    rw [e] at this
    simpa [e] using this
theorem R.newobj {I φ st a w} (h : R I φ st a w) (hn : n0 ≤ st.nx) (o : Obj) {blk : ABlk} (hB : Brel I (phiNew φ st.nx (some (w.heap.size, 0))) (w.alloc o) st.nx blk) (hgen : blk.gen = 0)
    (hm : mblk (phiNew φ st.nx (some (w.heap.size, 0))) st.nx blk = some w.heap.size) :
    R I (phiNew φ st.nx (some (w.heap.size, 0))) (st.new blk) a (w.alloc o) ∧ Ev n0 I φ st.h w I (phiNew φ st.nx (some (w.heap.size, 0))) (st.new blk).h (w.alloc o) ∧ n0 ≤ (st.new blk).nx :=
  h.new hn (w' := w.alloc o) ⟨rfl, rfl, rfl, Nat.le_refl _, by rw [World.size_alloc]; omega⟩ (fun b hb => Below.heap_alloc w o b hb) hB hgen fun b hb => by
    rw [hm] at hb; cases hb; exact ⟨Nat.le_refl _, by rw [World.size_alloc]; omega⟩
/-- **A loop over a function**, at the outermost. -/
theorem pw_range_outer {g : Operand} {ps : Array Nat} {assign body : Code} {Q : Exit → St → Prop} {st : St} {gf : Nat} {caps : List (Nat × Nat)} (hg : st.ev g = some (.clos gf caps))
    (hC : PC P gf (.yld (st.nx + 1) :: capRefs caps) (st.nx + 2) ((st.nx + 1, .lrec st.n st.s .ready none ps assign body st.nx) :: (st.nx, .dfr true) :: st.h) (RangeQ P n0 none st (st.nx + 1) ps assign body st.nx (st.nx :: st.d) Q)) : PW P n0 none (.rangeFunc g ps assign body) Q st := by
  intro I φ a w l hR hn hr hl
  obtain rfl : l = none := hl
  refine wpIn_rangeFunc fun fn _ => ?_
  -- the two blocks
  obtain ⟨hR1, hev1, hn1⟩ := hR.newobj hn (.deferred (some [])) (blk := .dfr true) ⟨w.heap.size, 0, phiNew_same, World.alloc_heap_new w _⟩ rfl (by simp [mblk, phiNew_same])
  obtain ⟨φ1, hφ1⟩ : ∃ φ1, φ1 = phiNew φ st.nx (some (w.heap.size, 0)) := ⟨_, rfl⟩
  have hD : φ1 st.nx 0 = some (some (w.heap.size, 0)) := by rw [hφ1]; exact phiNew_same
  rw [← hφ1] at hR1 hev1
  obtain ⟨w1, hw1⟩ : ∃ w1, w1 = w.alloc (.deferred (some [])) := ⟨_, rfl⟩
  have hsz1 : w1.heap.size = w.heap.size + 1 := by rw [hw1, World.size_alloc]
  have hent := run_enterLoop_outer (P := P) (w := w) fn a.tmps ps assign body
  rw [← hw1] at hR1 hev1 hent
  obtain ⟨rec, hrec⟩ : ∃ rec : Loop, rec = { state := .ready, pending := none, fn, tmps := a.tmps, params := ps, assign, body, defers := w.heap.size } := ⟨_, rfl⟩
  rw [← hrec] at hent
  have hinc : ∀ i g x, φ1 i g = some x → phiNew φ1 (st.new (.dfr true)).nx (some (w1.heap.size, 0)) i g = some x := fun i g x hx => by
    have := hR1.rh.dom i g x hx
    rw [phiNew_other (by omega)]; exact hx
  obtain ⟨hR2, hev2, hn2⟩ := hR1.newobj hn1 (.loop rec) (blk := .lrec st.n st.s .ready none ps assign body st.nx)
    ⟨w1.heap.size, 0, fn, a.tmps, w.heap.size, 0, phiNew_same, hinc _ _ _ hD, by rw [World.alloc_heap_new, hrec], hR.size, fun t sv ht =>
      (hR1.slot t sv ht).mono (fun b κ hb => Below.heap_alloc w1 _ b (hR1.rh.ilt b κ hb)) (fun _ _ h => h) hinc⟩ rfl (by simp [mblk, phiNew_same])
  obtain ⟨φ2, hφ2⟩ : ∃ φ2, φ2 = phiNew φ1 (st.new (.dfr true)).nx (some (w1.heap.size, 0)) := ⟨_, rfl⟩
  have hL : φ2 (st.nx + 1) 0 = some (some (w1.heap.size, 0)) := by rw [hφ2]; exact phiNew_same
  have hD2 : φ2 st.nx 0 = some (some (w.heap.size, 0)) := by rw [hφ2]; exact hinc _ _ _ hD
  rw [← hφ2] at hR2 hev2
  obtain ⟨w2, hw2⟩ : ∃ w2, w2 = w1.alloc (.loop rec) := ⟨_, rfl⟩
  rw [← hw2] at hR2 hev2 hent
  have hgv : Srel I φ2 w2 (.clos gf caps) (a.eval g) := by
    have hst : ((st.new (.dfr true)).new (.lrec st.n st.s .ready none ps assign body st.nx)).ev g = some (.clos gf caps) := by rw [← hg]; cases g <;> rfl
    exact ev_ok hR2 hst
  obtain ⟨cs, hcl, hcr, d, hres, hinv⟩ := clos_resolve (P := P) (l := w1.heap.size) hgv hC.1 w2
  refine ⟨w1.heap.size, _, w2, d, w2, gf, _, w2, by rw [hsz1]; exact hent, hres, fun _ _ => trivial, hinv, FW_depth, ?_⟩
  have hcall := hC.2 I φ2 w2 (.func (.yield w1.heap.size) #[] #[] :: cs) hR2.rh (by simp [hcl, capRefs]) (fun j sv u hj hu => by
    cases j with
    | zero => simp only [List.getElem?_cons_zero, Option.some.injEq] at hj hu; subst hj hu; exact .yld _ _ 0 hL
    | succ j => exact hcr j sv u (by simpa using hj) (by simpa using hu))
  have hR3 : R I φ2 { (st.new (.dfr true)).new (.lrec st.n st.s .ready none ps assign body st.nx) with d := st.nx :: st.d } { a with defers := [{ target := .collected w.heap.size, args := #[] }] ++ a.defers } w2 :=
    ⟨hR2.rh, hR2.size, hR2.slot, by simp [hR.dlen], fun k i hk => by
      cases k with
      | zero => simp only [List.getElem?_cons_zero, Option.some.injEq] at hk; subst hk; exact ⟨_, _, hD2, rfl⟩
      | succ k =>
        obtain ⟨b, c, h1, h2⟩ := hR2.dmark k i (by simpa [St.new] using hk)
        exact ⟨b, c, h1, by simpa using h2⟩⟩
  exact hcall.mono fun e w' hp => range_fin (st := { (st.new (.dfr true)).new (.lrec st.n st.s .ready none ps assign body st.nx) with d := st.nx :: st.d }) (st0 := st) hr (hev1.trans hev2) rfl hR3 rfl rfl (by simp [St.new]; omega) hL (by simp [St.new]) hp
end Go.Vc
/- Part U: maps with numbers or texts as keys. -/
namespace Go.Vc
open Go.RowKit Go.MapKept Go.ChangeMaps
variable {P : Program} {n0 : Nat} {r : Option Nat}
def isKeyB : TypeDesc → Value → Bool
  | .int q, .int q' _ => q == q'
  | .string, .string _ => true
  | _, _ => false
theorem isKeyB_ok {d : TypeDesc} {v : Value} (h : isKeyB d v = true) : IsKey d v := by
  cases d <;> cases v <;> simp_all [isKeyB, IsKey]
def keq : Value → Value → Bool
  | .int _ a, .int _ b => decide (a = b)
  | .string a, .string b => decide (a = b)
  | _, _ => false
theorem keq_ok {d : TypeDesc} {a b : Value} (ha : isKeyB d a = true) (hb : isKeyB d b = true) : Instr.sameNow d a b = some (keq a b) ∧ (keq a b = true → b = a) := by
  cases d <;> cases a <;> cases b <;> simp_all [isKeyB, Instr.sameNow, keq, beq_dec]
  rename_i x y
  by_cases h : x = y
  · subst h; simpa using (bytes_beq x x).2 rfl
  · have : ¬ (x == y) = true := fun h' => h ((bytes_beq x y).1 h')
    simp [h]
    simpa using this
/-- The first entry of a key: where, and what. -/
def mfind (d : TypeDesc) (k : Value) : List (Nat × SV × SV) → Nat → Option (Option (Nat × SV))
  | [], _ => some none
  | q :: l, i => match litOf q.2.1 with
    | some v => if isKeyB d v then (if keq k v then some (some (i, q.2.2)) else mfind d k l (i + 1)) else none
    | none => none
theorem mfind_ok {I φ w} {d : TypeDesc} {k : Value} (hk : isKeyB d k = true) : ∀ (es : List (Nat × SV × SV)) (ents : List MapEntry) (i : Nat) (a : Option (Nat × SV)), mfind d k es i = some a → ents.length = es.length →
    (∀ (j : Nat) q, es[j]? = some q → ∃ e, ents[j]? = some e ∧ e.born = q.1 ∧ Srel I φ w q.2.1 e.key ∧ Srel I φ w q.2.2 e.val) →
    (a = none ∧ Instr.findNow d k ents i = some none) ∨ ∃ m e q, a = some (i + m, q.2.2) ∧ Instr.findNow d k ents i = some (some (i + m, e.val)) ∧ ents[m]? = some e ∧ es[m]? = some q ∧ q.2.1 = .pv (.lit k) ∧ e.key = k ∧ Srel I φ w q.2.2 e.val
  | [], ents, i, a, h, hl, _ => by
    simp only [mfind, Option.some.injEq] at h
    subst h
    obtain rfl : ents = [] := List.eq_nil_of_length_eq_zero hl
    exact .inl ⟨rfl, rfl⟩
  | q :: es, [], i, a, h, hl, _ => by simp at hl
  | q :: es, e :: ents, i, a, h, hl, hr => by
    simp only [mfind] at h
    split at h
    · rename_i v hv
      obtain ⟨e', he', hb, hs1, hs2⟩ := hr 0 q rfl
      simp only [List.getElem?_cons_zero, Option.some.injEq] at he'
      subst he'
      obtain ⟨hev, _⟩ := litOf_ok hv hs1
      split at h
      · rename_i hkv
        obtain ⟨g1, g2⟩ := keq_ok hk hkv
        split at h
        · rename_i hkq
          injection h with h
          subst h
          have hvk := g2 hkq
          subst hvk
          refine .inr ⟨0, e, q, rfl, ?_, rfl, rfl, ?_, hev, hs2⟩
          · simp [Instr.findNow, hev, g1, hkq]
          · unfold litOf at hv
            split at hv
            · rename_i h'; injection hv with hv; rw [h', hv]
            · cases hv
        · rename_i hkq
          have hkq' : keq k v = false := by simpa using hkq
          rcases mfind_ok hk es ents (i + 1) a h (by simpa using hl) (fun j q' hj => hr (j + 1) q' (by simpa using hj)) with ⟨h1, h2⟩ | ⟨m, e', q', h1, h2, h3, h4, h5, h6, h7⟩
          · exact .inl ⟨h1, by simp [Instr.findNow, hev, g1, hkq', h2]⟩
          · refine .inr ⟨m + 1, e', q', by rw [h1, show i + 1 + m = i + (m + 1) by omega], ?_, by simpa using h3, by simpa using h4, h5, h6, h7⟩
            simp [Instr.findNow, hev, g1, hkq', h2]
            omega
      · cases h
    · cases h
/-- The kinds of keys and the type of elements. -/
def mtype (P : Program) (t : TypeId) : Option (TypeDesc × TypeId) := match P.underlying t with
  | some (.map kt e) => (P.underlying kt).map fun d => (d, e)
  | _ => none
theorem mtype_ok {t : TypeId} {d : TypeDesc} {e : TypeId} (h : mtype P t = some (d, e)) : ∃ kt, P.underlying t = some (.map kt e) ∧ P.underlying kt = some d := by
  unfold mtype at h
  split at h
  · rename_i kt e' hu
    obtain ⟨d', hd, h⟩ := Option.map_eq_some_iff.1 h
    cases h
    exact ⟨kt, hu, hd⟩
  · cases h
theorem run_zero1 {e : TypeId} {z : Value} (h : tzero1 P e = some z) (w : World) : (zeroValue e).run P w = .ok z w ∧ z.oneCell' = true := by
  unfold tzero1 at h
  obtain ⟨i, hi, h⟩ := Option.bind_eq_some_iff.1 h
  obtain ⟨z', hz, h⟩ := Option.bind_eq_some_iff.1 h
  split at h
  · injection h with h
    subst h
    refine ⟨?_, ‹_›⟩
    simp [zeroValue, typeInfo, hi, hz]
  · cases h
/-- What a look into a map gives. -/
def vlook (P : Program) (H : List (Nat × ABlk)) (t : TypeId) (ok : Bool) (m k : SV) : Option SV := match m, litOf k, mtype P t with
  | .mp id, some kv, some (d, e) => match lk id H, tzero1 P e with
    | some (.map _ es), some z => if isKeyB d kv then match mfind d kv es 0 with
      | some (some (_, sv)) => some (if ok then .tup [sv, .pv (.lit (.bool true))] else sv)
      | some none => some (if ok then .tup [.pv (.lit z), .pv (.lit (.bool false))] else .pv (.lit z))
      | none => none else none
    | _, _ => none
  | _, _, _ => none
theorem tup2 {I φ w a b u v} (h1 : Srel I φ w a u) (h2 : Srel I φ w b v) : Srel I φ w (.tup [a, b]) (.tuple #[u, v]) :=
  .tup [a, b] [u, v] rfl fun j sv x hj hx => by
    match j with
    | 0 => simp only [List.getElem?_cons_zero, Option.some.injEq] at hj hx; subst hj hx; exact h1
    | 1 => simp only [List.getElem?_cons_succ, List.getElem?_cons_zero, Option.some.injEq] at hj hx; subst hj hx; exact h2
    | j + 2 => simp at hj
theorem lookup_ok {I φ a w} {o : Oper} {t : TypeId} {x k : Operand} {ok : Bool} {m kv sv : SV} {st : St} (hR : R I φ st a w) (ho : o.op = .lookup t x k ok) (hx : st.ev x = some m) (hk : st.ev k = some kv)
    (hv : vlook P st.h t ok m kv = some sv) : ∃ v, (execOp a.eval o).run P w = .ok (.value v) w ∧ Srel I φ w sv v := by
  unfold vlook at hv
  split at hv
  · rename_i id kl d e hkl hmt
    split at hv
    · rename_i clock es z hl hz
      split at hv
      · rename_i hkk
        obtain ⟨kt, hu, hd⟩ := mtype_ok hmt
        obtain ⟨b, c, ents, h1, h2, h3, h4⟩ := hR.rh.blk _ _ hl
        have hsm := ev_ok hR hx
        obtain ⟨hke, _⟩ := litOf_ok hkl (ev_ok hR hk)
        have hmv : a.eval x = .map (some b) := by
          generalize a.eval x = v at hsm
          cases hsm with | mp _ b' c' h' => rw [h1] at h'; cases h'; rfl
        obtain ⟨hz1, hz2⟩ := run_zero1 hz w
        have hck := run_checkKey (P := P) (w := w) hd (isKeyB_ok hkk) ents.isEmpty 9999
        have hzs : Srel I φ w (.pv (.lit z)) z := .pv _ _ (.lit z hz2)
        have hbs : ∀ q : Bool, Srel I φ w (.pv (.lit (.bool q))) (.bool q) := fun q => .pv _ _ (.lit _ rfl)
        have fin : ∀ (u : Value) (q : Bool) (su : SV), Srel I φ w su u → (Instr.findKey kt kl ents.toList).run P w = .ok (if q then some (0, u) else none) w → True := fun _ _ _ _ _ => trivial
        have key : ∃ u q su, Srel I φ w su u ∧ sv = (if ok then .tup [su, .pv (.lit (.bool q))] else su) ∧ (Instr.lookup t (a.eval x) (a.eval k) ok).run P w = .ok (if ok then .tuple #[u, .bool q] else u) w := by
          cases hf' : mfind d kl es 0 with
          | none => rw [hf'] at hv; cases hv
          | some ans =>
            rcases mfind_ok hkk es ents.toList 0 ans hf' (by simpa using h3) (fun j q hj => by simpa using h4 j q hj) with ⟨rfl, g2⟩ | ⟨m', e', q', rfl, g2, g3, g4, g5, g6, g7⟩
            · rw [hf'] at hv
              refine ⟨z, false, .pv (.lit z), hzs, by simp only [Option.some.injEq] at hv; exact hv.symm, ?_⟩
              have hfk := run_findKey (w := w) hd g2
              simp [Instr.lookup, hmv, hke, run_underlying hu, Go.MapKept.run_getObj_map h2, hck, hfk, hz1]
            · rw [hf'] at hv
              refine ⟨e'.val, true, q'.2.2, g7, by simp only [Option.some.injEq] at hv; exact hv.symm, ?_⟩
              have hfk := run_findKey (w := w) hd g2
              simp [Instr.lookup, hmv, hke, run_underlying hu, Go.MapKept.run_getObj_map h2, hck, hfk]
        obtain ⟨u, q, su, g1, rfl, g3⟩ := key
        refine ⟨(if ok then .tuple #[u, .bool q] else u), by unfold execOp; simp only [ho, Sem.run_bind, g3, Result.andThen_ok, Sem.run_pure], ?_⟩
        cases ok with
        | true => exact tup2 g1 (hbs q)
        | false => exact g1
      · cases hv
    · cases hv
  · cases hv
/-- A new map. -/
theorem pwo_makeMap {o : Oper} {t : TypeId} {K : St → Prop} {st : St} (ho : o.op = .makeMap t none) (hf : st.fits o.dst = true) (hK : K ((st.new (.map 0 [])).put o.dst (.mp st.nx))) : PWo P n0 r o K st := by
  refine pwo_run (fun c => by rw [ho]; simp) fun I φ a w hR hn => ?_
  obtain ⟨h1, h2, h3⟩ := hR.newobj hn (.map #[] 0) (blk := .map 0 []) ⟨w.heap.size, 0, #[], phiNew_same, World.alloc_heap_new w _, rfl, fun j q hj => by simp at hj⟩ rfl (by simp [mblk, phiNew_same])
  refine ⟨.value (.map (some w.heap.size)), w.alloc (.map #[] 0), ?_, .inl ⟨_, rfl, _, I, _, hK, h1.put (by cases hd : o.dst <;> simp_all [St.fits, St.new]) (.mp _ _ 0 phiNew_same), by cases o.dst <;> exact h3, ?_⟩⟩
  · unfold execOp
    simp only [ho]
    simp [Instr.makeMap, Sem.run_bind, run_newObj_alloc, Result.andThen]
  · have : ∀ (s : St) v, (s.put o.dst v).h = s.h := fun s v => by cases o.dst <;> rfl
    rw [this]
    exact h2
/-- What a map holds when an entry has been laid. -/
def mput (d : TypeDesc) (k v : SV) (kv : Value) (clock : Nat) (es : List (Nat × SV × SV)) : Option (Nat × List (Nat × SV × SV)) := match mfind d kv es 0 with
  | some (some (j, _)) => match es[j]? with
    | some q => some (clock, es.set j (q.1, k, v))
    | none => none
  | some none => some (clock + 1, es ++ [(clock, k, v)])
  | none => none
theorem keyStays {k : Value} {d} (hk : isKeyB d k = true) (w : World) : (Instr.keyThatStays k k).run P w = .ok k w := run_keyThatStays (isKeyB_ok hk)
theorem pwo_mapUpdate {o : Oper} {t : TypeId} {x k y : Operand} {id : Nat} {kv vv : SV} {kl : Value} {d : TypeDesc} {e : TypeId} {clock clock' : Nat} {es es' : List (Nat × SV × SV)} {K : St → Prop} {st : St} (ho : o.op = .mapUpdate t x k y) (hdst : o.dst = none)
    (hx : st.ev x = some (.mp id)) (hk : st.ev k = some kv) (hy : st.ev y = some vv) (hkl : litOf kv = some kl) (hmt : mtype P t = some (d, e)) (hkk : isKeyB d kl = true)
    (hl : lk id st.h = some (.map clock es)) (hp : mput d kv vv kl clock es = some (clock', es')) (hK : K (st.upd id (.map clock' es'))) : PWo P n0 r o K st := by
  refine pwo_run (fun c => by rw [ho]; simp) fun I φ a w hR hn => ?_
  obtain ⟨kt, hu, hd⟩ := mtype_ok hmt
  obtain ⟨b, c, ents, h1, h2, h3, h4⟩ := hR.rh.blk _ _ hl
  have hsm := ev_ok hR hx
  have hsk := ev_ok hR hk
  have hsy := ev_ok hR hy
  obtain ⟨hke, _⟩ := litOf_ok hkl hsk
  have hmv : a.eval x = .map (some b) := by
    generalize a.eval x = v at hsm
    cases hsm with | mp _ b' c' h' => rw [h1] at h'; cases h'; rfl
  have hck := run_checkKey (P := P) (w := w) hd (isKeyB_ok hkk) false 9999
  have hlt : b < w.heap.size := (Array.getElem?_eq_some_iff.1 h2).1
  have hmb : ∀ cl l, mblk φ id (.map cl l) = some b := fun cl l => by simp [mblk, h1]
  have hnI : ∀ κ, ¬ I b κ := (hR.rh.mlt _ _ b hl (hmb _ _)).2
  -- the world behind it
  have key : ∃ ents', (Instr.mapUpdate t (a.eval x) (a.eval k) (a.eval y)).run P w = .ok () { w with heap := w.heap.setIfInBounds b (.map ents' clock') } ∧ ents'.size = es'.length ∧
      ∀ (j : Nat) q, es'[j]? = some q → ∃ e, ents'[j]? = some e ∧ e.born = q.1 ∧ Srel I φ w q.2.1 e.key ∧ Srel I φ w q.2.2 e.val := by
    unfold mput at hp
    cases hf' : mfind d kl es 0 with
    | none => rw [hf'] at hp; cases hp
    | some ans =>
      rcases mfind_ok hkk es ents.toList 0 ans hf' (by simpa using h3) (fun j q hj => by simpa using h4 j q hj) with ⟨rfl, g2⟩ | ⟨m', e', q', rfl, g2, g3, g4, g5, g6, g7⟩
      · rw [hf'] at hp
        simp only [Option.some.injEq, Prod.mk.injEq] at hp
        obtain ⟨rfl, rfl⟩ := hp
        have hfk := run_findKey (w := w) hd g2
        refine ⟨ents.push { key := kl, val := a.eval y, born := clock }, ?_, by simp [h3], fun j q hj => ?_⟩
        · simp [Instr.mapUpdate, hmv, hke, run_underlying hu, Go.MapKept.run_getObj_map h2, hck, hfk, run_setObj_map _ h2]
        · rw [List.getElem?_append] at hj
          split at hj
          · rename_i hlt
            obtain ⟨e, he, hr⟩ := h4 j q hj
            refine ⟨e, ?_, hr⟩
            rw [Array.getElem?_push, if_neg (by omega)]
            exact he
          · rename_i hge
            have : j - es.length = 0 := by
              rcases Nat.eq_zero_or_pos (j - es.length) with h | h
              · exact h
              · rw [List.getElem?_eq_none (by simp; omega)] at hj; cases hj
            rw [this] at hj
            simp only [List.getElem?_cons_zero, Option.some.injEq] at hj
            subst hj
            refine ⟨_, by rw [Array.getElem?_push, if_pos (by omega)], rfl, ?_, hsy⟩
            rw [hke] at hsk
            exact hsk
      · rw [hf'] at hp
        simp only [Nat.zero_add] at hp g2
        rw [g4] at hp
        simp only [Option.some.injEq, Prod.mk.injEq] at hp
        obtain ⟨rfl, rfl⟩ := hp
        have hfk := run_findKey (w := w) hd g2
        have g3' : ents[m']? = some e' := by simpa using g3
        have hm' : m' < ents.size := (Array.getElem?_eq_some_iff.1 g3').1
        refine ⟨ents.modify m' fun e => { e with key := kl, val := a.eval y }, ?_, by simp [h3], fun j q hj => ?_⟩
        · have hst := keyStays (P := P) hkk w
          have : (ents[m']?.map (·.key)).getD kl = kl := by rw [g3']; simpa using g6
          simp [Instr.mapUpdate, hmv, hke, run_underlying hu, Go.MapKept.run_getObj_map h2, hck, hfk, this, hst, run_setObj_map _ h2]
        · rw [List.getElem?_set] at hj
          rw [Array.getElem?_modify]
          split at hj
          · rename_i hjm
            subst hjm
            split at hj
            · simp only [Option.some.injEq] at hj
              subst hj
              obtain ⟨e0, he0, hb0, _⟩ := h4 m' q' g4
              rw [if_pos rfl, he0]
              refine ⟨_, rfl, hb0, ?_, hsy⟩
              rw [hke] at hsk
              exact hsk
            · cases hj
          · rename_i hjm
            rw [if_neg hjm]
            exact h4 j q hj
  obtain ⟨ents', g1, g2, g3⟩ := key
  have hw' : ∀ k', k' ≠ b → (w.heap.setIfInBounds b (.map ents' clock'))[k']? = w.heap[k']? := fun k' hk' => Array.getElem?_setIfInBounds_ne hk'.symm
  have hup := hR.upd (n0 := n0) (w' := { w with heap := w.heap.setIfInBounds b (.map ents' clock') }) (blk' := .map clock' es') hl (hmb _ _) ⟨rfl, rfl, rfl, Nat.le_refl _, by simp⟩ hw'
    ⟨b, c, ents', h1, by simp [hlt], g2, fun j q hj => by
      obtain ⟨e, he, hb, hs1, hs2⟩ := g3 j q hj
      have hI : ∀ k' κ, I k' κ → (w.heap.setIfInBounds b (.map ents' clock'))[k']? = w.heap[k']? := fun k' κ hk' => hw' k' fun e => hnI κ (e ▸ hk')
      exact ⟨e, he, hb, hs1.mono hI (fun _ _ h => h) fun _ _ _ h => h, hs2.mono hI (fun _ _ h => h) fun _ _ _ h => h⟩⟩ rfl (hmb _ _)
  refine ⟨.skip, _, by unfold execOp; simp only [ho, Sem.run_bind, g1, Result.andThen_ok, Sem.run_pure], .inr ⟨rfl, _, I, φ, hK, ?_, hn, hup.2⟩⟩
  rw [hdst]
  exact hup.1
/-- A walk over a map begins. -/
theorem pwo_range {o : Oper} {t : TypeId} {x : Operand} {id clock : Nat} {es : List (Nat × SV × SV)} {K : St → Prop} {st : St} (ho : o.op = .range t x) (hx : st.ev x = some (.mp id)) (hmt : (mtype P t).isSome = true)
    (hl : lk id st.h = some (.map clock es)) (hf : st.fits o.dst = true) (hK : K ((st.new (.mit id clock [] clock)).put o.dst (.itr st.nx))) : PWo P n0 r o K st := by
  refine pwo_run (fun c => by rw [ho]; simp) fun I φ a w hR hn => ?_
  obtain ⟨⟨d, e⟩, hmt⟩ := Option.isSome_iff_exists.1 hmt
  obtain ⟨kt, hu, hd⟩ := mtype_ok hmt
  obtain ⟨b, c, ents, h1, h2, h3, h4⟩ := hR.rh.blk _ _ hl
  have hsm := ev_ok hR hx
  have hmv : a.eval x = .map (some b) := by
    generalize a.eval x = v at hsm
    cases hsm with | mp _ b' c' h' => rw [h1] at h'; cases h'; rfl
  have hid := hR.rh.dom _ _ _ h1
  obtain ⟨g1, g2, g3⟩ := hR.newobj hn (.mapIter (some b) clock #[] clock) (blk := .mit id clock [] clock) ⟨w.heap.size, 0, b, c, phiNew_same, by rw [phiNew_other (by omega)]; exact h1, World.alloc_heap_new w _⟩ rfl (by simp [mblk, phiNew_same])
  refine ⟨.value (.pointer (some ⟨w.heap.size, 0, none⟩)), w.alloc (.mapIter (some b) clock #[] clock), ?_, .inl ⟨_, rfl, _, I, _, hK, g1.put (by cases hd : o.dst <;> simp_all [St.fits, St.new]) (.itr _ _ 0 phiNew_same), by cases o.dst <;> exact g3, ?_⟩⟩
  · unfold execOp
    simp only [ho]
    simp [Instr.range, hmv, run_underlying hu, Go.MapKept.run_getObj_map h2, run_newObj_alloc, Result.andThen]
  · have : ∀ (s : St) v, (s.put o.dst v).h = s.h := fun s v => by cases o.dst <;> rfl
    rw [this]
    exact g2
/-- A step of a walk over a map. -/
theorem pwo_next {o : Oper} {x : Operand} {it m since last clock : Nat} {seen : List Nat} {es : List (Nat × SV × SV)} {K : St → Prop} {st : St} (ho : o.op = .next x false) (hx : st.ev x = some (.itr it))
    (hi : lk it st.h = some (.mit m since seen last)) (hl : lk m st.h = some (.map clock es)) (hold : ∀ q ∈ es, q.1 < since) (hsl : since ≤ last) (hf : st.fits o.dst = true)
    (hK : ∀ (j : Nat) q, es[j]? = some q → q.1 ∉ seen → K ((st.upd it (.mit m since (seen ++ [q.1]) clock)).put o.dst (.tup [.pv (.lit (.bool true)), q.2.1, q.2.2])))
    (hK' : (∀ q ∈ es, q.1 ∈ seen) → K (st.put o.dst (.tup [.pv (.lit (.bool false))]))) : PWo P n0 r o K st := by
  refine pwo_run (fun c => by rw [ho]; simp) fun I φ a w hR hn => ?_
  obtain ⟨b, c, ents, h1, h2, h3, h4⟩ := hR.rh.blk _ _ hl
  obtain ⟨bi, ci, bm, cm, i1, i2, i3⟩ := hR.rh.blk _ _ hi
  rw [h1] at i2; cases i2
  have hsi := ev_ok hR hx
  have hiv : a.eval x = .pointer (some ⟨bi, 0, none⟩) := by
    generalize a.eval x = v at hsi
    cases hsi with | itr _ b' c' h' => rw [i1] at h'; cases h'; rfl
  have hlt : bi < w.heap.size := (Array.getElem?_eq_some_iff.1 i3).1
  have hmb : ∀ a1 a2 a3 a4, mblk φ it (.mit a1 a2 a3 a4) = some bi := fun _ _ _ _ => by simp [mblk, i1]
  have hnI : ∀ κ, ¬ I bi κ := (hR.rh.mlt _ _ bi hi (hmb _ _ _ _)).2
  -- each entry of the machine's is one of the state's
  have back : ∀ e ∈ ents.toList, ∃ (j : Nat) (q : Nat × SV × SV), es[j]? = some q ∧ ents[j]? = some e ∧ e.born = q.1 ∧ Srel I φ w q.2.1 e.key ∧ Srel I φ w q.2.2 e.val := fun e he => by
    obtain ⟨j, hj⟩ := List.mem_iff_getElem?.1 he
    have hj' : ents[j]? = some e := by simpa using hj
    have hjl : j < es.length := by have := (Array.getElem?_eq_some_iff.1 hj').1; omega
    obtain ⟨e', he', hr⟩ := h4 j es[j] (List.getElem?_eq_getElem hjl)
    rw [hj'] at he'; cases he'
    exact ⟨j, _, List.getElem?_eq_getElem hjl, hj', hr⟩
  have hh : ∀ e ∈ ents.toList, e.born < since := fun e he => by
    obtain ⟨j, q, hq, _, hb, _⟩ := back e he
    rw [hb]; exact hold q (List.mem_of_getElem? hq)
  rcases run_next_at (P := P) w o.type bi b since last seen.toArray ents clock i3 h2 hh hsl with ⟨hz, hrun⟩ | ⟨e, he, w1, hw1, hrun⟩
  · refine ⟨.value (.tuple #[.bool false]), w, by unfold execOp; simp only [ho, hiv, Sem.run_bind, hrun, Result.andThen_ok, Sem.run_pure], .inl ⟨_, rfl, _, I, φ, hK' (fun q hq => ?_), hR.put hf (.tup [.pv (.lit (.bool false))] [.bool false] rfl fun j sv u hj hu => ?_), by cases o.dst <;> exact hn, ?_⟩⟩
    · obtain ⟨j, hj⟩ := List.mem_iff_getElem?.1 hq
      obtain ⟨e, he, hb, _⟩ := h4 j q hj
      by_cases hs : q.1 ∈ seen
      · exact hs
      · have hem : e ∈ (leftOf ents seen.toArray).toList := by
          unfold leftOf
          simp only [Array.toList_filter, List.mem_filter]
          refine ⟨by simpa using Array.mem_of_getElem? he, ?_⟩
          simpa [hb] using hs
        have : (leftOf ents seen.toArray).toList.length = 0 := by simpa using hz
        rw [List.eq_nil_of_length_eq_zero this] at hem
        cases hem
    · match j with
      | 0 => simp only [List.getElem?_cons_zero, Option.some.injEq] at hj hu; subst hj hu; exact .pv _ _ (.lit _ rfl)
      | j + 1 => simp at hj
    · have : ∀ s, (st.put o.dst s).h = st.h := fun s => by cases o.dst <;> rfl
      rw [this]; exact Ev.refl
  · have hw1h : w1.heap = w.heap := by rcases hw1 with rfl | rfl <;> rfl
    have hw1o : w1.os = w.os ∧ w1.tape = w.tape ∧ w1.output = w.output := by rcases hw1 with rfl | rfl <;> exact ⟨rfl, rfl, rfl⟩
    unfold leftOf at he
    simp only [Array.toList_filter, List.mem_filter] at he
    obtain ⟨j, q, hq, hje, hb, hs1, hs2⟩ := back e he.1
    have hns : q.1 ∉ seen := by
      have := he.2
      rw [hb] at this
      simpa using this
    have hnew : seen.toArray.push e.born = (seen ++ [q.1]).toArray := by rw [hb]; simp
    rw [hnew] at hrun
    obtain ⟨w', hw'⟩ : ∃ w', w' = Go.ChangeMaps.setBlock w1 bi (.mapIter (some b) since (seen ++ [q.1]).toArray clock) := ⟨_, rfl⟩
    have hother : ∀ k, k ≠ bi → w'.heap[k]? = w.heap[k]? := fun k hk => by rw [hw']; simp only [Go.ChangeMaps.setBlock, hw1h]; exact Array.getElem?_setIfInBounds_ne hk.symm
    have hup := hR.upd (n0 := n0) (w' := w') (blk' := .mit m since (seen ++ [q.1]) clock) hi (hmb _ _ _ _) ⟨by rw [hw']; exact hw1o.1, by rw [hw']; exact hw1o.2.1, by rw [hw']; exact hw1o.2.2, by rw [hw']; rcases hw1 with rfl | rfl <;> first | exact Nat.le_refl _ | exact Nat.le_succ _, by rw [hw']; simp [Go.ChangeMaps.setBlock, hw1h]⟩ hother
      ⟨bi, ci, b, c, i1, h1, by rw [hw']; simp [Go.ChangeMaps.setBlock, hw1h, hlt]⟩ rfl (hmb _ _ _ _)
    rw [← hw'] at hrun
    have hI : ∀ k κ, I k κ → w'.heap[k]? = w.heap[k]? := fun k κ hk => hother k fun e => hnI κ (e ▸ hk)
    refine ⟨.value (.tuple #[.bool true, e.key, e.val]), w', by unfold execOp; simp only [ho, hiv, Sem.run_bind, hrun, Result.andThen_ok, Sem.run_pure], .inl ⟨_, rfl, _, I, φ, hK j q hq hns, hup.1.put (by cases hd : o.dst <;> simp_all [St.fits, St.upd]) ?_, by cases o.dst <;> exact hn, ?_⟩⟩
    · refine .tup _ [.bool true, e.key, e.val] rfl fun j' sv u hj hu => ?_
      match j' with
      | 0 => simp only [List.getElem?_cons_zero, Option.some.injEq] at hj hu; subst hj hu; exact .pv _ _ (.lit _ rfl)
      | 1 => simp only [List.getElem?_cons_succ, List.getElem?_cons_zero, Option.some.injEq] at hj hu; subst hj hu; exact hs1.mono hI (fun _ _ h => h) fun _ _ _ h => h
      | 2 => simp only [List.getElem?_cons_succ, List.getElem?_cons_zero, Option.some.injEq] at hj hu; subst hj hu; exact hs2.mono hI (fun _ _ h => h) fun _ _ _ h => h
      | j' + 3 => simp at hj
    · have : ∀ (s : St) v, (s.put o.dst v).h = s.h := fun s v => by cases o.dst <;> rfl
      rw [this]; exact hup.2
/-- The entry at which a walk over a map stands. -/
theorem pwo_entry {o : Oper} {x : Operand} {it m since last clock b j : Nat} {seen : List Nat} {es : List (Nat × SV × SV)} {kv vv : SV} {K : St → Prop} {st : St} (ho : o.op = .entry x) (hx : st.ev x = some (.itr it))
    (hi : lk it st.h = some (.mit m since (seen ++ [b]) last)) (hl : lk m st.h = some (.map clock es)) (hlast : last = clock) (hj : es[j]? = some (b, kv, vv)) (hnd : (es.map (·.1)).Nodup) (hf : st.fits o.dst = true)
    (hK : K (st.put o.dst (.tup [kv, vv]))) : PWo P n0 r o K st := by
  refine pwo_run (fun c => by rw [ho]; simp) fun I φ a w hR hn => ?_
  subst hlast
  obtain ⟨bm, cm, ents, h1, h2, h3, h4⟩ := hR.rh.blk _ _ hl
  obtain ⟨bi, ci, bm', cm', i1, i2, i3⟩ := hR.rh.blk _ _ hi
  rw [h1] at i2; cases i2
  have hsi := ev_ok hR hx
  have hiv : a.eval x = .pointer (some ⟨bi, 0, none⟩) := by
    generalize a.eval x = v at hsi
    cases hsi with | itr _ b' c' h' => rw [i1] at h'; cases h'; rfl
  obtain ⟨e, he, hb, hs1, hs2⟩ := h4 j _ hj
  have hborn : ents.toList.map (·.born) = es.map (·.1) := by
    refine List.ext_getElem? fun k => ?_
    rw [List.getElem?_map, List.getElem?_map]
    cases hk : es[k]? with
    | none =>
      rw [List.getElem?_eq_none_iff] at hk
      rw [List.getElem?_eq_none (by simp; omega)]
      rfl
    | some q =>
      obtain ⟨e', he', hb', _⟩ := h4 k q hk
      have : ents.toList[k]? = some e' := by simpa using he'
      rw [this]
      simp [hb']
  have hi3 : w.heap[bi]? = some (.mapIter (some bm) since (seen.toArray.push e.born) last) := by rw [hb]; simpa using i3
  have hrun := run_entry_at (P := P) w bi bm since seen.toArray ents last e hi3 h2 (by simpa using Array.mem_of_getElem? he) (by rw [hborn]; exact hnd)
  refine ⟨.value (.tuple #[e.key, e.val]), w, by unfold execOp; simp only [ho, hiv, Sem.run_bind, hrun, Result.andThen_ok, Sem.run_pure], .inl ⟨_, rfl, _, I, φ, hK, hR.put hf (tup2 hs1 hs2), by cases o.dst <;> exact hn, ?_⟩⟩
  have : ∀ s, (st.put o.dst s).h = st.h := fun s => by cases o.dst <;> rfl
  rw [this]; exact Ev.refl
end Go.Vc
/- Part V: runs with guards; regions in an open order. -/
namespace Go.Vc
open Go.RowKit
variable {P : Program} {n0 : Nat} {r : Option Nat}
/-- What a quiet operation gives. -/
def vq (P : Program) (st : St) : Op → Option SV
  | .build t parts => vbuild P st t parts.toList
  | .lookup t x k ok => match st.ev x, st.ev k with
    | some m, some kv => vlook P st.h t ok m kv
    | _, _ => none
  | op => vop P st op
theorem vq_ok {I φ st a w} (hR : R I φ st a w) {o : Oper} {sv : SV} (h : vq P st o.op = some sv) : ∃ v, (execOp a.eval o).run P w = .ok (.value v) w ∧ Srel I φ w sv v := by
  unfold vq at h
  split at h
  · rename_i ho; exact build_ok hR ho h
  · rename_i ho
    split at h
    · exact lookup_ok hR ho ‹_› ‹_› h
    · cases h
  · exact vop_ok hR h
theorem vq_defer {st : St} {o : Oper} {sv : SV} (h : vq P st o.op = some sv) (c : Call) : o.op ≠ .defer c := fun e => by rw [e] at h; simp [vq, vop] at h
theorem pwo_vq {o : Oper} {sv : SV} {K : St → Prop} {st : St} (hv : vq P st o.op = some sv) (hf : st.fits o.dst = true) (hK : K (st.put o.dst sv)) : PWo P n0 r o K st :=
  pwo_valq (vq_defer hv) (fun I φ a w hR => vq_ok hR hv) hf hK
theorem gate_true {ops : Array Oper} {o : Oper} {l : List Oper} {K : St → Prop} {st : St} (h : gate ops st o = some true) (hf : st.fits o.dst = true) (h1 : ∀ K' : St → Prop, (∀ st', PWl P n0 r ops l K st' → K' st') → PWo P n0 r o K' st) : PWl P n0 r ops (o :: l) K st := by
  cases hg : o.guard with
  | none => exact pwl_cons hg h1
  | some q =>
    obtain ⟨j, want⟩ := q
    unfold gate at h
    rw [hg] at h
    simp only at h
    split at h
    · rename_i t ht
      split at h
      · rename_i b hb
        injection h with h
        have hbw : b = want := by simpa using h
        exact pwl_guard hg ht hb hf (fun _ => h1) fun hne => absurd hbw hne
      · cases h
      · cases h
    · cases h
theorem gate_false {ops : Array Oper} {o : Oper} {l : List Oper} {K : St → Prop} {st : St} (h : gate ops st o = some false) (hf : st.fits o.dst = true) (h2 : PWl P n0 r ops l K (st.put o.dst (.tup []))) : PWl P n0 r ops (o :: l) K st := by
  cases hg : o.guard with
  | none => unfold gate at h; rw [hg] at h; cases h
  | some q =>
    obtain ⟨j, want⟩ := q
    unfold gate at h
    rw [hg] at h
    simp only at h
    split at h
    · rename_i t ht
      split at h
      · rename_i b hb
        injection h with h
        have hbw : ¬ b = want := by simpa using h
        exact pwl_guard hg ht hb hf (fun e => absurd e hbw) fun _ => h2
      · rename_i hb
        exact pwl_pass hg ht hb hf h2
      · cases h
    · cases h
/-- A call by name, lent. -/
theorem pwl_callg {ops : Array Oper} {o : Oper} {l : List Oper} {K : St → Prop} {st : St} {c : Call} {x : Operand} {f : Nat} {svs cs : List SV} {Qr : SV → Prop} (live : Bool) (hC : CC P f cs Qr) (hg : gate ops st o = some true)
    (ho : o.op = .call c) (hx : c.callee = .value x) (hv : st.ev x = some (.clos f [])) (ha : st.evs c.args.toList = some svs) (hb : bors st.h live svs = some cs) (hf : st.fits o.dst = true)
    (hK : ∀ sv, Qr sv → sv.const = true → (live = true → sv.scalar = true) ∧ PWl P n0 r ops l K (st.put o.dst sv)) : PWl P n0 r ops (o :: l) K st :=
  gate_true hg hf fun _ hK' => pwo_callc live ho hx hv ha hb hf hC fun sv h1 h2 => ⟨(hK sv h1 h2).1, hK' _ (hK sv h1 h2).2⟩
/-! ### Open orders -/
/-- The quiet operations that have been carried out would give the same again. -/
def stabG (P : Program) (st : St) (o : Oper) : Option Nat → Option Bool → Prop
  | some d, some true => d < st.n ∧ vq P st o.op = lk d st.s ∧ (lk d st.s).isSome = true
  | some d, some false => d < st.n ∧ lk d st.s = some (.tup [])
  | _, _ => False
def stabO (P : Program) (ops : Array Oper) (st : St) : Option Oper → Prop
  | some o => stabG P st o o.dst (gate ops st o)
  | none => False
def stabs (P : Program) (ops : Array Oper) (st : St) : List Nat → Prop
  | [] => True
  | j :: c => stabO P ops st ops[j]? ∧ stabs P ops st c
theorem stabs_ok {ops : Array Oper} {st : St} : ∀ {c : List Nat}, stabs P ops st c → ∀ j ∈ c, Stable P n0 r ops j st
  | [], _, j, hj => by simp at hj
  | k :: c, h, j, hj => by
    rcases List.mem_cons.1 hj with rfl | hj
    · have h := h.1
      unfold stabO at h
      split at h
      · rename_i o ho
        unfold stabG at h
        split at h
        · rename_i d h1 h2
          obtain ⟨h3, h4, h5⟩ := h
          obtain ⟨sv, hsv⟩ := Option.isSome_iff_exists.1 h5
          rw [hsv] at h4
          refine ⟨o, d, sv, ho, h1, hsv, h3, .inl ⟨h2, ?_⟩⟩
          have := pwo_vq (P := P) (n0 := n0) (r := r) (K := fun st' => st' = st.put (some d) sv) (o := o) h4 (by rw [h1]; simpa [St.fits] using h3) (by rw [h1])
          exact this
        · rename_i d h1 h2
          exact ⟨o, d, _, ho, h1, h.2, h.1, .inr ⟨h2, rfl⟩⟩
        · exact h.elim
      · exact h.elim
    · exact stabs_ok h.2 j hj
theorem pwd_nil {ops : Array Oper} {eff c : List Nat} {K : St → Prop} {st : St} (hs : stabs P ops st c) (hk : K st) : PWd P n0 r ops eff K [] c st := ⟨stabs_ok hs, hk⟩
theorem pwd_eff {ops : Array Oper} {eff c c' l : List Nat} {i : Nat} {o : Oper} {K : St → Prop} {st : St} (he : eff.contains i = true) (ho : ops[i]? = some o) (hs : stabs P ops st c) (hg : gate ops st o = some true)
    (hc : (c.filter fun j => !(reach ops 6 (predsOf ops i)).contains j) = c') (h : PWo P n0 r o (fun st' => PWd P n0 r ops eff K l c' st') st) : PWd P n0 r ops eff K (i :: l) c st := by
  unfold PWd
  rw [if_pos he]
  exact ⟨stabs_ok hs, o, ho, .inl ⟨hg, hc ▸ h⟩⟩
theorem pwd_off {ops : Array Oper} {eff c c' l : List Nat} {i : Nat} {o : Oper} {K : St → Prop} {st : St} (he : eff.contains i = true) (ho : ops[i]? = some o) (hs : stabs P ops st c) (hg : gate ops st o = some false) (hf : st.fits o.dst = true)
    (hc : (c.filter fun j => !(reach ops 6 (predsOf ops i)).contains j) = c') (h : PWd P n0 r ops eff K l c' (st.put o.dst (.tup []))) : PWd P n0 r ops eff K (i :: l) c st := by
  unfold PWd
  rw [if_pos he]
  exact ⟨stabs_ok hs, o, ho, .inr ⟨hg, hf, hc ▸ h⟩⟩
theorem pwd_call {ops : Array Oper} {eff c c' l : List Nat} {i : Nat} {o : Oper} {K : St → Prop} {st : St} {cl : Call} {x : Operand} {f : Nat} {svs cs : List SV} {Qr : SV → Prop} (live : Bool) (hC : CC P f cs Qr) (he : eff.contains i = true) (ho : ops[i]? = some o) (hs : stabs P ops st c) (hg : gate ops st o = some true)
    (hc : (c.filter fun j => !(reach ops 6 (predsOf ops i)).contains j) = c') (hop : o.op = .call cl) (hx : cl.callee = .value x) (hv : st.ev x = some (.clos f [])) (ha : st.evs cl.args.toList = some svs) (hb : bors st.h live svs = some cs) (hf : st.fits o.dst = true)
    (hK : ∀ sv, Qr sv → sv.const = true → (live = true → sv.scalar = true) ∧ PWd P n0 r ops eff K l c' (st.put o.dst sv)) : PWd P n0 r ops eff K (i :: l) c st := pwd_eff he ho hs hg hc (pwo_callc live hop hx hv ha hb hf hC hK)
theorem pws_draw {i : Nat} {ops : Array Oper} {l : List Code} {Q : Exit → St → Prop} {st : St} (eff ord alt : List Nat) (hok : drawOk ops eff ord alt = true) (h : PWd P n0 r ops eff (PWs P n0 r l Q) ord [] st) : PWs P n0 r (.region i ops true :: l) Q st := pw_draw eff ord alt hok h
end Go.Vc
/- Part W: runs that stop where something is to be decided. -/
namespace Go.Vc
open Go.RowKit
variable {P : Program} {n0 : Nat} {r : Option Nat}
/-- One operation, maps too. -/
def step2 (P : Program) (st : St) (o : Oper) : Option St := match o.op with
  | .lookup _ _ _ _ => fin1 o ((vq P st o.op).map fun sv => (st, sv))
  | .makeMap _ none => fin1 o (some (st.new (.map 0 []), .mp st.nx))
  | .mapUpdate t x k y => match o.dst, st.ev x, st.ev k, st.ev y with
    | none, some (.mp id), some kv, some vv => match litOf kv, mtype P t, lk id st.h with
      | some kl, some (d, _), some (.map clock es) => if isKeyB d kl then match mput d kv vv kl clock es with
        | some (clock', es') => some (st.upd id (.map clock' es'))
        | none => none else none
      | _, _, _ => none
    | _, _, _, _ => none
  | .range t x => match st.ev x with
    | some (.mp id) => match lk id st.h with
      | some (.map clock _) => if (mtype P t).isSome = true then fin1 o (some (st.new (.mit id clock [] clock), .itr st.nx)) else none
      | _ => none
    | _ => none
  | _ => step1 P st o
theorem step2_ok {o : Oper} {st st' : St} {K : St → Prop} (h : step2 P st o = some st') (hK : K st') : PWo P n0 r o K st := by
  unfold step2 at h
  split at h
  · obtain ⟨st1, sv, h1, h2, h3⟩ := fin1_some h
    obtain ⟨sv', h4, h5⟩ := Option.map_eq_some_iff.1 h1
    cases h5
    exact pwo_vq h4 h2 (h3 ▸ hK)
  · rename_i ho
    obtain ⟨st1, sv, h1, h2, h3⟩ := fin1_some h
    cases h1
    exact pwo_makeMap ho h2 (h3 ▸ hK)
  · rename_i ho
    split at h
    · rename_i hd hx hk hy
      split at h
      · rename_i hkl hmt hl
        split at h
        · rename_i hkk
          split at h
          · rename_i hp
            injection h with h
            exact pwo_mapUpdate ho hd hx hk hy hkl hmt hkk hl hp (h ▸ hK)
          · cases h
        · cases h
      · cases h
    · cases h
  · rename_i ho
    split at h
    · rename_i hx
      split at h
      · rename_i hl
        split at h
        · rename_i hmt
          obtain ⟨st1, sv, h1, h2, h3⟩ := fin1_some h
          cases h1
          exact pwo_range ho hx hmt hl h2 (h3 ▸ hK)
        · cases h
      · cases h
    · cases h
  · exact step1_ok h hK
theorem pwl_run2 {ops : Array Oper} {o : Oper} {l : List Oper} {K : St → Prop} {st st' : St} (h : gate ops st o = some true) (hf : st.fits o.dst = true) (hs : step2 P st o = some st') (hk : PWl P n0 r ops l K st') : PWl P n0 r ops (o :: l) K st :=
  gate_true h hf fun _ hK' => step2_ok hs (hK' _ hk)
def Goes (A B : St → Prop) : Prop := ∀ st, A st → B st
def GoesS (A B : List Oper → St → Prop) : Prop := ∀ l st, A l st → B l st
theorem Goes.go {A B : St → Prop} (h : Goes A B) {st : St} (a : A st) : B st := h st a
theorem GoesS.go {A B : List Oper → St → Prop} (h : GoesS A B) {l : List Oper} {st : St} (a : A l st) : B l st := h l st a
def runK (P : Program) (ops : Array Oper) (S : List Oper → St → Prop) (K : St → Prop) : List Oper → St → Prop
  | [], st => K st
  | o :: l, st => if st.fits o.dst = true ∧ gate ops st o = some true then
      match step2 P st o with
      | some st' => runK P ops S K l st'
      | none => S (o :: l) st
    else if st.fits o.dst = true ∧ gate ops st o = some false then runK P ops S K l (st.put o.dst (.tup []))
    else S (o :: l) st
def runS (P : Program) (ops : Array Oper) (S : List Oper → St → Prop) (K : St → Prop) (o : Oper) (l : List Oper) (st : St) : Option St → Prop
  | some st' => runK P ops S K l st'
  | none => S (o :: l) st
variable {ops : Array Oper} {S : List Oper → St → Prop} {K : St → Prop} {o : Oper} {l : List Oper} {st : St}
def runG (P : Program) (ops : Array Oper) (S : List Oper → St → Prop) (K : St → Prop) (o : Oper) (l : List Oper) (st : St) : Bool → Option Bool → Prop
  | true, some true => runS P ops S K o l st (step2 P st o)
  | true, some false => runK P ops S K l (st.put o.dst (.tup []))
  | _, _ => S (o :: l) st
theorem runK_nil : runK P ops S K [] st = K st := rfl
theorem runK_cons : runK P ops S K (o :: l) st = runG P ops S K o l st (st.fits o.dst) (gate ops st o) := by
  rw [runK]
  cases hf : st.fits o.dst with
  | false => simp [runG]
  | true =>
    cases hg : gate ops st o with
    | none => simp [runG]
    | some b => cases b with
      | true => simp [runG]; cases step2 P st o <;> rfl
      | false => simp [runG]
theorem runG_t : runG P ops S K o l st true (some true) = runS P ops S K o l st (step2 P st o) := rfl
theorem runG_f : runG P ops S K o l st true (some false) = runK P ops S K l (st.put o.dst (.tup [])) := rfl
theorem runG_split {b : Bool} (h1 : b = true → runG P ops S K o l st true (some true)) (h2 : b = false → runG P ops S K o l st true (some false)) : runG P ops S K o l st true (some b) := by
  cases b
  · exact h2 rfl
  · exact h1 rfl
theorem runS_some {st' : St} : runS P ops S K o l st (some st') = runK P ops S K l st' := rfl
theorem runS_none : runS P ops S K o l st none = S (o :: l) st := rfl
theorem runK_ok {K0 : St → Prop} : ∀ {l : List Oper} {st : St}, runK P ops (fun l st => PWl P n0 r ops l K0 st) K0 l st → PWl P n0 r ops l K0 st
  | [], st, h => pwl_nil h
  | o :: l, st, h => by
    rw [runK] at h
    split at h
    · rename_i hc
      split at h
      · exact pwl_run2 hc.2 hc.1 ‹_› (runK_ok h)
      · exact h
    · split at h
      · rename_i hc
        exact gate_false hc.2 hc.1 (runK_ok h)
      · exact h
theorem pwl_runk (h : ∀ (K' : St → Prop) (S : List Oper → St → Prop), Goes K K' → GoesS (fun l st => PWl P n0 r ops l K st) S → runK P ops S K' l st) : PWl P n0 r ops l K st :=
  runK_ok (h _ _ (fun _ h => h) fun _ _ h => h)
theorem pws_regk {i : Nat} {cs : List Code} {Q : Exit → St → Prop} (h : ∀ (K' : St → Prop) (S : List Oper → St → Prop), Goes (PWs P n0 r cs Q) K' → GoesS (fun l st => PWl P n0 r ops l (PWs P n0 r cs Q) st) S → runK P ops S K' ops.toList st) :
    PWs P n0 r (.region i ops false :: cs) Q st := pw_region (runK_ok (h _ _ (fun _ h => h) fun _ _ h => h))
theorem pwl_callk {c : Call} {x : Operand} {f : Nat} {svs cs : List SV} {Qr : SV → Prop} (live : Bool) (hg : gate ops st o = some true)
    (ho : o.op = .call c) (hx : c.callee = .value x) (hv : st.ev x = some (.clos f [])) (ha : st.evs c.args.toList = some svs) (hb : bors st.h live svs = some cs) (hf : st.fits o.dst = true) (hC : CC P f cs Qr)
    (hK : ∀ sv, Qr sv → sv.const = true → (live = true → sv.scalar = true) ∧ PWl P n0 r ops l K (st.put o.dst sv)) : PWl P n0 r ops (o :: l) K st := pwl_callg live hC hg ho hx hv ha hb hf hK
/-! ### Open orders -/
def GoesD (A B : List Nat → List Nat → St → Prop) : Prop := ∀ l c st, A l c st → B l c st
theorem GoesD.go {A B : List Nat → List Nat → St → Prop} (h : GoesD A B) {l c : List Nat} {st : St} (a : A l c st) : B l c st := h l c st a
def runD (P : Program) (ops : Array Oper) (eff : List Nat) (S : List Nat → List Nat → St → Prop) (K : St → Prop) : List Nat → List Nat → St → Prop
  | [], c, st => stabs P ops st c ∧ K st
  | i :: l, c, st => if eff.contains i then S (i :: l) c st else match ops[i]? with
    | some o => match o.dst with
      | some d => if d < st.n then match gate ops st o with
        | some true => match vq P st o.op with
          | some sv => runD P ops eff S K l (i :: c) (st.put (some d) sv)
          | none => S (i :: l) c st
        | some false => runD P ops eff S K l (i :: c) (st.put (some d) (.tup []))
        | none => S (i :: l) c st
        else S (i :: l) c st
      | none => S (i :: l) c st
    | none => S (i :: l) c st
section
variable {eff : List Nat} {SD : List Nat → List Nat → St → Prop} {i d : Nat} {ls c : List Nat}
def runDV (P : Program) (ops : Array Oper) (eff : List Nat) (S : List Nat → List Nat → St → Prop) (K : St → Prop) (i : Nat) (l c : List Nat) (st : St) (d : Nat) : Option SV → Prop
  | some sv => runD P ops eff S K l (i :: c) (st.put (some d) sv)
  | none => S (i :: l) c st
def runDG (P : Program) (ops : Array Oper) (eff : List Nat) (S : List Nat → List Nat → St → Prop) (K : St → Prop) (i : Nat) (l c : List Nat) (st : St) (o : Oper) : Option Nat → Option Bool → Prop
  | some d, some true => if d < st.n then runDV P ops eff S K i l c st d (vq P st o.op) else S (i :: l) c st
  | some d, some false => if d < st.n then runD P ops eff S K l (i :: c) (st.put (some d) (.tup [])) else S (i :: l) c st
  | _, _ => S (i :: l) c st
def runDO (P : Program) (ops : Array Oper) (eff : List Nat) (S : List Nat → List Nat → St → Prop) (K : St → Prop) (i : Nat) (l c : List Nat) (st : St) : Bool → Option Oper → Prop
  | false, some o => runDG P ops eff S K i l c st o o.dst (gate ops st o)
  | _, _ => S (i :: l) c st
theorem runD_nil : runD P ops eff SD K [] c st = (stabs P ops st c ∧ K st) := rfl
theorem runD_cons : runD P ops eff SD K (i :: ls) c st = runDO P ops eff SD K i ls c st (eff.contains i) ops[i]? := by
  rw [runD]
  cases eff.contains i with
  | true => rfl
  | false =>
    simp only [Bool.false_eq_true, if_false]
    cases ops[i]? with
    | none => rfl
    | some o =>
      simp only [runDO]
      cases o.dst with
      | none => rfl
      | some d =>
        cases gate ops st o with
        | none => by_cases hd : d < st.n <;> simp [hd, runDG]
        | some b => cases b <;> by_cases hd : d < st.n <;> simp only [hd, runDG, if_true, if_false] <;> first | rfl | (cases vq P st o.op <;> rfl)
end
theorem runD_ok {eff : List Nat} {K0 : St → Prop} : ∀ {l c : List Nat} {st : St}, runD P ops eff (fun l c st => PWd P n0 r ops eff K0 l c st) K0 l c st → PWd P n0 r ops eff K0 l c st
  | [], c, st, h => pwd_nil h.1 h.2
  | i :: l, c, st, h => by
    rw [runD] at h
    split at h
    · exact h
    · rename_i he
      split at h
      · rename_i o ho
        split at h
        · rename_i d hd
          split at h
          · rename_i hlt
            split at h
            · split at h
              · rename_i hg sv hsv
                have h := runD_ok h
                unfold PWd
                rw [if_neg he]
                refine ⟨o, d, sv, ho, hd, hlt, fun I φ a w hR => ?_, h⟩
                obtain ⟨v, _, hs⟩ := vq_ok hR hsv
                exact ⟨v, hs⟩
              · exact h
            · have h := runD_ok h
              unfold PWd
              rw [if_neg he]
              exact ⟨o, d, _, ho, hd, hlt, fun I φ a w hR => ⟨undef, srel_undef⟩, h⟩
            · exact h
          · exact h
        · exact h
      · exact h
theorem pwd_runk {eff ls c : List Nat} (h : ∀ (K' : St → Prop) (S : List Nat → List Nat → St → Prop), Goes K K' → GoesD (fun l c st => PWd P n0 r ops eff K l c st) S → runD P ops eff S K' ls c st) : PWd P n0 r ops eff K ls c st :=
  runD_ok (h _ _ (fun _ h => h) fun _ _ _ h => h)
theorem pws_drawk {i : Nat} {cs : List Code} {Q : Exit → St → Prop} (eff ord alt : List Nat) (hok : drawOk ops eff ord alt = true)
    (h : ∀ (K' : St → Prop) (S : List Nat → List Nat → St → Prop), Goes (PWs P n0 r cs Q) K' → GoesD (fun l c st => PWd P n0 r ops eff (PWs P n0 r cs Q) l c st) S → runD P ops eff S K' ord [] st) : PWs P n0 r (.region i ops true :: cs) Q st :=
  pws_draw eff ord alt hok (pwd_runk h)
theorem pwd_step2 {eff c c' ls : List Nat} {i : Nat} {st' : St} (he : eff.contains i = true) (ho : ops[i]? = some o) (hs : stabs P ops st c) (hg : gate ops st o = some true)
    (hc : (c.filter fun j => !(reach ops 6 (predsOf ops i)).contains j) = c') (h1 : step2 P st o = some st') (h : PWd P n0 r ops eff K ls c' st') : PWd P n0 r ops eff K (i :: ls) c st := pwd_eff he ho hs hg hc (step2_ok h1 h)
theorem pwd_callk {eff c c' ls : List Nat} {i : Nat} {cl : Call} {x : Operand} {f : Nat} {svs cs : List SV} {Qr : SV → Prop} (live : Bool) (he : eff.contains i = true) (ho : ops[i]? = some o) (hs : stabs P ops st c) (hg : gate ops st o = some true)
    (hc : (c.filter fun j => !(reach ops 6 (predsOf ops i)).contains j) = c') (hop : o.op = .call cl) (hx : cl.callee = .value x) (hv : st.ev x = some (.clos f [])) (ha : st.evs cl.args.toList = some svs) (hb : bors st.h live svs = some cs) (hf : st.fits o.dst = true) (hC : CC P f cs Qr)
    (hK : ∀ sv, Qr sv → sv.const = true → (live = true → sv.scalar = true) ∧ PWd P n0 r ops eff K ls c' (st.put o.dst sv)) : PWd P n0 r ops eff K (i :: ls) c st := pwd_call live hC he ho hs hg hc hop hx hv ha hb hf hK
/-- A function's value out of a cell. -/
theorem ent_unclos {st : St} {t f : Nat} (h : lk t st.s = some (.pv (.lit (.func (.func f) #[] #[])))) : Ent n0 st (st.put (some t) (.clos f [])) := fun I φ a w hR hn => by
  have hs := hR.slot t _ h
  have e := hs.lit_inv
  refine ⟨I, φ, ⟨hR.rh, hR.size, fun t' sv ht => ?_, hR.dlen, hR.dmark⟩, hn, Ev.refl⟩
  rw [lk_put] at ht
  by_cases e2 : t = t'
  · subst e2
    rw [if_pos rfl] at ht
    injection ht with ht
    subst ht
    rw [e]
    exact .clos f [] [] rfl fun j q hq => by simp at hq
  · rw [if_neg e2] at ht
    exact hR.slot t' sv ht
theorem pwl_unclosc {c : Call} {t f : Nat} (ho : o.op = .call c) (hc : c.callee = .value (.tmp t)) (h : lk t st.s = some (.pv (.lit (.func (.func f) #[] #[])))) (hk : PWl P n0 r ops (o :: l) K (st.put (some t) (.clos f []))) : PWl P n0 r ops (o :: l) K st := PWl.ent (ent_unclos h) hk
theorem pws_isloop {c : Code} {cs : List Code} {Q : Exit → St → Prop} (h : PWs P n0 r (.loop c :: cs) Q st) : PWs P n0 r (.loop c :: cs) Q st := h
/-- A loop, with something that stays. -/
theorem pws_loopc {α γ : Type} {c : Code} {cs : List Code} {Q : Exit → St → Prop} (J : γ → α → St) (μ : α → Nat) (ok : α → Prop) (x0 : α) (h0 : ok x0) (g : γ) (he : Ent n0 st (J g x0))
    (round : ∀ x, ok x → ∀ K : St → Prop, (∀ st' x', Ent n0 st' (J g x') → ok x' → μ x' < μ x → K st') → PWs P n0 r [c] (thenQ K Q) (J g x)) : PWs P n0 r (.loop c :: cs) Q st := pws_loop (J g) μ ok x0 h0 he round
theorem pws_condk {t : Nat} {x y : Code} {cs : List Code} {Q : Exit → St → Prop} {k : Bool} (ht : lk t st.s = some (.pv (.lit (.bool k)))) (h1 : k = true → PWs P n0 r (x :: cs) Q st) (h2 : k = false → PWs P n0 r (y :: cs) Q st) : PWs P n0 r (.cond (.tmp t) x y :: cs) Q st :=
  pws_cond ht h1 h2
end Go.Vc
namespace Go.Vc
open Go.RowKit
variable {P : Program} {n0 : Nat} {r : Option Nat} {st : St}
/-- A slice in a slot is no longer than slices can be. -/
theorem pws_len {t es : Nat} {xs : List (List PV)} {c : Code} {cs : List Code} {Q : Exit → St → Prop} (ht : lk t st.s = some (.pv (.sl es xs))) (h : xs.length ≤ maxLen → PWs P n0 r (c :: cs) Q st) : PWs P n0 r (c :: cs) Q st := by
  intro I φ a w l hR
  refine h ?_ I φ a w l hR
  have hs := hR.slot t _ ht
  generalize a.tmps.getD t undef = v at hs
  cases hs with
  | pv _ _ hp =>
    cases hp with
    | sl _ _ A n c u hn hc hmax hA hes hcell hrep => omega
end Go.Vc
/- Facts of types. -/
namespace Go.Proofs.T1
open Go.Vc
theorem tsz3 : tsz Tryz.prog 3 = some 1 := by kernel_rfl
theorem tagg3 : tagg Tryz.prog 3 = some false := by kernel_rfl
theorem tbytes3 : tbytes Tryz.prog 3 = some 8 := by kernel_rfl
theorem tint3 : tint Tryz.prog 3 = some .i64 := by kernel_rfl
theorem tzero3 : tzero Tryz.prog 3 = some [.int .i64 0] := by kernel_rfl
theorem tzero1_3 : tzero1 Tryz.prog 3 = some (.int .i64 0) := by kernel_rfl
theorem tsz4 : tsz Tryz.prog 4 = some 1 := by kernel_rfl
theorem tagg4 : tagg Tryz.prog 4 = some false := by kernel_rfl
theorem tbytes4 : tbytes Tryz.prog 4 = some 1 := by kernel_rfl
theorem tbool4 : tbool Tryz.prog 4 = true := by kernel_rfl
theorem tzero4 : tzero Tryz.prog 4 = some [.bool false] := by kernel_rfl
theorem tzero1_4 : tzero1 Tryz.prog 4 = some (.bool false) := by kernel_rfl
theorem tsz5 : tsz Tryz.prog 5 = some 1 := by kernel_rfl
theorem tagg5 : tagg Tryz.prog 5 = some false := by kernel_rfl
theorem tbytes5 : tbytes Tryz.prog 5 = some 1 := by kernel_rfl
theorem tint5 : tint Tryz.prog 5 = some .u8 := by kernel_rfl
theorem tzero5 : tzero Tryz.prog 5 = some [.int .u8 0] := by kernel_rfl
theorem tzero1_5 : tzero1 Tryz.prog 5 = some (.int .u8 0) := by kernel_rfl
theorem tsz9 : tsz Tryz.prog 9 = some 1 := by kernel_rfl
theorem tagg9 : tagg Tryz.prog 9 = some false := by kernel_rfl
theorem tbytes9 : tbytes Tryz.prog 9 = some 16 := by kernel_rfl
theorem tstr9 : tstr Tryz.prog 9 = true := by kernel_rfl
theorem tzero9 : tzero Tryz.prog 9 = some [.string ⟨#[]⟩] := by kernel_rfl
theorem tzero1_9 : tzero1 Tryz.prog 9 = some (.string ⟨#[]⟩) := by kernel_rfl
theorem tsz22 : tsz Tryz.prog 22 = some 1 := by kernel_rfl
theorem tagg22 : tagg Tryz.prog 22 = some false := by kernel_rfl
theorem tel22 : tel Tryz.prog 22 = some 32 := by kernel_rfl
theorem tbytes22 : tbytes Tryz.prog 22 = some 24 := by kernel_rfl
theorem tzero22 : tzero Tryz.prog 22 = some [.slice none 0 0] := by kernel_rfl
theorem tzero1_22 : tzero1 Tryz.prog 22 = some (.slice none 0 0) := by kernel_rfl
theorem tsz23 : tsz Tryz.prog 23 = some 1 := by kernel_rfl
theorem tagg23 : tagg Tryz.prog 23 = some false := by kernel_rfl
theorem tel23 : tel Tryz.prog 23 = some 54 := by kernel_rfl
theorem tbytes23 : tbytes Tryz.prog 23 = some 24 := by kernel_rfl
theorem tzero23 : tzero Tryz.prog 23 = some [.slice none 0 0] := by kernel_rfl
theorem tzero1_23 : tzero1 Tryz.prog 23 = some (.slice none 0 0) := by kernel_rfl
theorem tsz24 : tsz Tryz.prog 24 = some 1 := by kernel_rfl
theorem tagg24 : tagg Tryz.prog 24 = some false := by kernel_rfl
theorem tel24 : tel Tryz.prog 24 = some 3 := by kernel_rfl
theorem tbytes24 : tbytes Tryz.prog 24 = some 24 := by kernel_rfl
theorem tzero24 : tzero Tryz.prog 24 = some [.slice none 0 0] := by kernel_rfl
theorem tzero1_24 : tzero1 Tryz.prog 24 = some (.slice none 0 0) := by kernel_rfl
theorem tsz25 : tsz Tryz.prog 25 = some 1 := by kernel_rfl
theorem tagg25 : tagg Tryz.prog 25 = some false := by kernel_rfl
theorem tbytes25 : tbytes Tryz.prog 25 = some 8 := by kernel_rfl
theorem tzero25 : tzero Tryz.prog 25 = some [.nilFunc] := by kernel_rfl
theorem tzero1_25 : tzero1 Tryz.prog 25 = some .nilFunc := by kernel_rfl
theorem tsz29 : tsz Tryz.prog 29 = some 1 := by kernel_rfl
theorem tagg29 : tagg Tryz.prog 29 = some false := by kernel_rfl
theorem tel29 : tel Tryz.prog 29 = some 119 := by kernel_rfl
theorem tbytes29 : tbytes Tryz.prog 29 = some 24 := by kernel_rfl
theorem tzero29 : tzero Tryz.prog 29 = some [.slice none 0 0] := by kernel_rfl
theorem tzero1_29 : tzero1 Tryz.prog 29 = some (.slice none 0 0) := by kernel_rfl
theorem tsz30 : tsz Tryz.prog 30 = some 1 := by kernel_rfl
theorem tagg30 : tagg Tryz.prog 30 = some false := by kernel_rfl
theorem tel30 : tel Tryz.prog 30 = some 121 := by kernel_rfl
theorem tbytes30 : tbytes Tryz.prog 30 = some 24 := by kernel_rfl
theorem tzero30 : tzero Tryz.prog 30 = some [.slice none 0 0] := by kernel_rfl
theorem tzero1_30 : tzero1 Tryz.prog 30 = some (.slice none 0 0) := by kernel_rfl
theorem tsz32 : tsz Tryz.prog 32 = some 10 := by kernel_rfl
theorem tagg32 : tagg Tryz.prog 32 = some true := by kernel_rfl
theorem tbytes32 : tbytes Tryz.prog 32 = some 152 := by kernel_rfl
theorem tzero32 : tzero Tryz.prog 32 = some [.int .i64 0, .string ⟨#[]⟩, .int .i64 0, .slice none 0 0, .int .i64 0, .slice none 0 0, .int .i64 0, .int .i64 0, .slice none 0 0, .slice none 0 0] := by kernel_rfl
theorem foff32_0 : foff Tryz.prog 32 0 = some 0 := by kernel_rfl
theorem foff32_1 : foff Tryz.prog 32 1 = some 1 := by kernel_rfl
theorem foff32_2 : foff Tryz.prog 32 2 = some 2 := by kernel_rfl
theorem foff32_3 : foff Tryz.prog 32 3 = some 3 := by kernel_rfl
theorem foff32_4 : foff Tryz.prog 32 4 = some 4 := by kernel_rfl
theorem foff32_5 : foff Tryz.prog 32 5 = some 5 := by kernel_rfl
theorem foff32_6 : foff Tryz.prog 32 6 = some 6 := by kernel_rfl
theorem foff32_7 : foff Tryz.prog 32 7 = some 7 := by kernel_rfl
theorem foff32_8 : foff Tryz.prog 32 8 = some 8 := by kernel_rfl
theorem foff32_9 : foff Tryz.prog 32 9 = some 9 := by kernel_rfl
theorem tsz33 : tsz Tryz.prog 33 = some 1 := by kernel_rfl
theorem tagg33 : tagg Tryz.prog 33 = some false := by kernel_rfl
theorem tel33 : tel Tryz.prog 33 = some 24 := by kernel_rfl
theorem tbytes33 : tbytes Tryz.prog 33 = some 24 := by kernel_rfl
theorem tzero33 : tzero Tryz.prog 33 = some [.slice none 0 0] := by kernel_rfl
theorem tzero1_33 : tzero1 Tryz.prog 33 = some (.slice none 0 0) := by kernel_rfl
theorem tsz34 : tsz Tryz.prog 34 = some 1 := by kernel_rfl
theorem tagg34 : tagg Tryz.prog 34 = some false := by kernel_rfl
theorem tbytes34 : tbytes Tryz.prog 34 = some 8 := by kernel_rfl
theorem tint34 : tint Tryz.prog 34 = some .i64 := by kernel_rfl
theorem tzero34 : tzero Tryz.prog 34 = some [.int .i64 0] := by kernel_rfl
theorem tzero1_34 : tzero1 Tryz.prog 34 = some (.int .i64 0) := by kernel_rfl
theorem tsz38 : tsz Tryz.prog 38 = some 3 := by kernel_rfl
theorem tagg38 : tagg Tryz.prog 38 = some true := by kernel_rfl
theorem tbytes38 : tbytes Tryz.prog 38 = some 56 := by kernel_rfl
theorem tzero38 : tzero Tryz.prog 38 = some [.int .i64 0, .slice none 0 0, .slice none 0 0] := by kernel_rfl
theorem foff38_0 : foff Tryz.prog 38 0 = some 0 := by kernel_rfl
theorem foff38_1 : foff Tryz.prog 38 1 = some 1 := by kernel_rfl
theorem foff38_2 : foff Tryz.prog 38 2 = some 2 := by kernel_rfl
theorem tsz47 : tsz Tryz.prog 47 = some 1 := by kernel_rfl
theorem tagg47 : tagg Tryz.prog 47 = some false := by kernel_rfl
theorem tel47 : tel Tryz.prog 47 = some 4 := by kernel_rfl
theorem tbytes47 : tbytes Tryz.prog 47 = some 24 := by kernel_rfl
theorem tzero47 : tzero Tryz.prog 47 = some [.slice none 0 0] := by kernel_rfl
theorem tzero1_47 : tzero1 Tryz.prog 47 = some (.slice none 0 0) := by kernel_rfl
theorem tsz52 : tsz Tryz.prog 52 = some 1 := by kernel_rfl
theorem tagg52 : tagg Tryz.prog 52 = some false := by kernel_rfl
theorem tel52 : tel Tryz.prog 52 = some 79 := by kernel_rfl
theorem tbytes52 : tbytes Tryz.prog 52 = some 24 := by kernel_rfl
theorem tzero52 : tzero Tryz.prog 52 = some [.slice none 0 0] := by kernel_rfl
theorem tzero1_52 : tzero1 Tryz.prog 52 = some (.slice none 0 0) := by kernel_rfl
theorem tsz54 : tsz Tryz.prog 54 = some 6 := by kernel_rfl
theorem tagg54 : tagg Tryz.prog 54 = some true := by kernel_rfl
theorem tbytes54 : tbytes Tryz.prog 54 = some 80 := by kernel_rfl
theorem tzero54 : tzero Tryz.prog 54 = some [.int .i64 0, .int .i64 0, .int .i64 0, .slice none 0 0, .int .i64 0, .slice none 0 0] := by kernel_rfl
theorem foff54_0 : foff Tryz.prog 54 0 = some 0 := by kernel_rfl
theorem foff54_1 : foff Tryz.prog 54 1 = some 1 := by kernel_rfl
theorem foff54_2 : foff Tryz.prog 54 2 = some 2 := by kernel_rfl
theorem foff54_3 : foff Tryz.prog 54 3 = some 3 := by kernel_rfl
theorem foff54_4 : foff Tryz.prog 54 4 = some 4 := by kernel_rfl
theorem foff54_5 : foff Tryz.prog 54 5 = some 5 := by kernel_rfl
theorem tsz79 : tsz Tryz.prog 79 = some 3 := by kernel_rfl
theorem tagg79 : tagg Tryz.prog 79 = some true := by kernel_rfl
theorem tbytes79 : tbytes Tryz.prog 79 = some 32 := by kernel_rfl
theorem tzero79 : tzero Tryz.prog 79 = some [.int .i64 0, .int .i64 0, .string ⟨#[]⟩] := by kernel_rfl
theorem foff79_0 : foff Tryz.prog 79 0 = some 0 := by kernel_rfl
theorem foff79_1 : foff Tryz.prog 79 1 = some 1 := by kernel_rfl
theorem foff79_2 : foff Tryz.prog 79 2 = some 2 := by kernel_rfl
theorem tsz117 : tsz Tryz.prog 117 = some 5 := by kernel_rfl
theorem tagg117 : tagg Tryz.prog 117 = some true := by kernel_rfl
theorem tbytes117 : tbytes Tryz.prog 117 = some 48 := by kernel_rfl
theorem tzero117 : tzero Tryz.prog 117 = some [.int .i64 0, .int .i64 0, .int .i64 0, .int .i64 0, .string ⟨#[]⟩] := by kernel_rfl
theorem foff117_0 : foff Tryz.prog 117 0 = some 0 := by kernel_rfl
theorem foff117_1 : foff Tryz.prog 117 1 = some 1 := by kernel_rfl
theorem foff117_2 : foff Tryz.prog 117 2 = some 2 := by kernel_rfl
theorem tsz119 : tsz Tryz.prog 119 = some 4 := by kernel_rfl
theorem tagg119 : tagg Tryz.prog 119 = some true := by kernel_rfl
theorem tbytes119 : tbytes Tryz.prog 119 = some 40 := by kernel_rfl
theorem tzero119 : tzero Tryz.prog 119 = some [.int .i64 0, .int .i64 0, .int .i64 0, .string ⟨#[]⟩] := by kernel_rfl
theorem foff119_0 : foff Tryz.prog 119 0 = some 0 := by kernel_rfl
theorem foff119_1 : foff Tryz.prog 119 1 = some 1 := by kernel_rfl
theorem tsz121 : tsz Tryz.prog 121 = some 12 := by kernel_rfl
theorem tagg121 : tagg Tryz.prog 121 = some true := by kernel_rfl
theorem tbytes121 : tbytes Tryz.prog 121 = some 112 := by kernel_rfl
theorem tzero121 : tzero Tryz.prog 121 = some [.int .i64 0, .int .i64 0, .int .i64 0, .int .i64 0, .string ⟨#[]⟩, .int .i64 0, .int .i64 0, .int .i64 0, .int .i64 0, .int .i64 0, .string ⟨#[]⟩, .int .i64 0] := by kernel_rfl
theorem foff121_0 : foff Tryz.prog 121 0 = some 0 := by kernel_rfl
theorem foff121_1 : foff Tryz.prog 121 1 = some 5 := by kernel_rfl
theorem foff121_2 : foff Tryz.prog 121 2 = some 6 := by kernel_rfl
theorem foff121_3 : foff Tryz.prog 121 3 = some 11 := by kernel_rfl
theorem tsz129 : tsz Tryz.prog 129 = some 1 := by kernel_rfl
theorem tagg129 : tagg Tryz.prog 129 = some false := by kernel_rfl
theorem tbytes129 : tbytes Tryz.prog 129 = some 8 := by kernel_rfl
theorem tzero129 : tzero Tryz.prog 129 = some [.nilFunc] := by kernel_rfl
theorem tzero1_129 : tzero1 Tryz.prog 129 = some .nilFunc := by kernel_rfl
theorem tsz130 : tsz Tryz.prog 130 = some 1 := by kernel_rfl
theorem tagg130 : tagg Tryz.prog 130 = some false := by kernel_rfl
theorem tbytes130 : tbytes Tryz.prog 130 = some 8 := by kernel_rfl
theorem tzero130 : tzero Tryz.prog 130 = some [.nilFunc] := by kernel_rfl
theorem tzero1_130 : tzero1 Tryz.prog 130 = some .nilFunc := by kernel_rfl
theorem tsz132 : tsz Tryz.prog 132 = some 1 := by kernel_rfl
theorem tagg132 : tagg Tryz.prog 132 = some false := by kernel_rfl
theorem tbytes132 : tbytes Tryz.prog 132 = some 8 := by kernel_rfl
theorem tzero132 : tzero Tryz.prog 132 = some [.nilFunc] := by kernel_rfl
theorem tzero1_132 : tzero1 Tryz.prog 132 = some .nilFunc := by kernel_rfl
theorem tsz206 : tsz Tryz.prog 206 = some 1 := by kernel_rfl
theorem tagg206 : tagg Tryz.prog 206 = some false := by kernel_rfl
theorem tbytes206 : tbytes Tryz.prog 206 = some 8 := by kernel_rfl
theorem tzero206 : tzero Tryz.prog 206 = some [.map none] := by kernel_rfl
theorem tzero1_206 : tzero1 Tryz.prog 206 = some (.map none) := by kernel_rfl
theorem mtype206 : mtype Tryz.prog 206 = some (.string, 24) := by kernel_rfl
theorem tsz208 : tsz Tryz.prog 208 = some 1 := by kernel_rfl
theorem tagg208 : tagg Tryz.prog 208 = some false := by kernel_rfl
theorem tbytes208 : tbytes Tryz.prog 208 = some 0 := by kernel_rfl
theorem tsz217 : tsz Tryz.prog 217 = some 1 := by kernel_rfl
theorem tagg217 : tagg Tryz.prog 217 = some false := by kernel_rfl
theorem tel217 : tel Tryz.prog 217 = some 220 := by kernel_rfl
theorem tbytes217 : tbytes Tryz.prog 217 = some 24 := by kernel_rfl
theorem tzero217 : tzero Tryz.prog 217 = some [.slice none 0 0] := by kernel_rfl
theorem tzero1_217 : tzero1 Tryz.prog 217 = some (.slice none 0 0) := by kernel_rfl
theorem tsz220 : tsz Tryz.prog 220 = some 2 := by kernel_rfl
theorem tagg220 : tagg Tryz.prog 220 = some true := by kernel_rfl
theorem tbytes220 : tbytes Tryz.prog 220 = some 16 := by kernel_rfl
theorem tzero220 : tzero Tryz.prog 220 = some [.int .i64 0, .nilFunc] := by kernel_rfl
theorem foff220_0 : foff Tryz.prog 220 0 = some 0 := by kernel_rfl
theorem foff220_1 : foff Tryz.prog 220 1 = some 1 := by kernel_rfl
theorem tsz235 : tsz Tryz.prog 235 = some 1 := by kernel_rfl
theorem tagg235 : tagg Tryz.prog 235 = some false := by kernel_rfl
theorem tel235 : tel Tryz.prog 235 = some 5 := by kernel_rfl
theorem tbytes235 : tbytes Tryz.prog 235 = some 24 := by kernel_rfl
theorem tzero235 : tzero Tryz.prog 235 = some [.slice none 0 0] := by kernel_rfl
theorem tzero1_235 : tzero1 Tryz.prog 235 = some (.slice none 0 0) := by kernel_rfl
theorem tsz256 : tsz Tryz.prog 256 = some 1 := by kernel_rfl
theorem tagg256 : tagg Tryz.prog 256 = some false := by kernel_rfl
theorem tbytes256 : tbytes Tryz.prog 256 = some 8 := by kernel_rfl
theorem tzero256 : tzero Tryz.prog 256 = some [.map none] := by kernel_rfl
theorem tzero1_256 : tzero1 Tryz.prog 256 = some (.map none) := by kernel_rfl
theorem mtype256 : mtype Tryz.prog 256 = some (.int .i64, 24) := by kernel_rfl
theorem tsz351 : tsz Tryz.prog 351 = some 24 := by kernel_rfl
theorem tagg351 : tagg Tryz.prog 351 = some true := by kernel_rfl
theorem tbytes351 : tbytes Tryz.prog 351 = some 24 := by kernel_rfl
theorem tzero351 : tzero Tryz.prog 351 = some [.int .u8 0, .int .u8 0, .int .u8 0, .int .u8 0, .int .u8 0, .int .u8 0, .int .u8 0, .int .u8 0, .int .u8 0, .int .u8 0, .int .u8 0, .int .u8 0, .int .u8 0, .int .u8 0, .int .u8 0, .int .u8 0, .int .u8 0, .int .u8 0, .int .u8 0, .int .u8 0, .int .u8 0, .int .u8 0, .int .u8 0, .int .u8 0] := by kernel_rfl
theorem tsz2 : tsz Tryz.prog 2 = some 1 := by kernel_rfl
theorem tagg2 : tagg Tryz.prog 2 = some false := by kernel_rfl
theorem tbytes2 : tbytes Tryz.prog 2 = some 8 := by kernel_rfl
theorem tint2 : tint Tryz.prog 2 = some .i64 := by kernel_rfl
theorem tzero2 : tzero Tryz.prog 2 = some [.int .i64 0] := by kernel_rfl
theorem tzero1_2 : tzero1 Tryz.prog 2 = some (.int .i64 0) := by kernel_rfl
theorem tsz291 : tsz Tryz.prog 291 = some 1 := by kernel_rfl
theorem tagg291 : tagg Tryz.prog 291 = some false := by kernel_rfl
theorem tbytes291 : tbytes Tryz.prog 291 = some 8 := by kernel_rfl
theorem tint291 : tint Tryz.prog 291 = some .u64 := by kernel_rfl
theorem tzero291 : tzero Tryz.prog 291 = some [.int .u64 0] := by kernel_rfl
theorem tzero1_291 : tzero1 Tryz.prog 291 = some (.int .u64 0) := by kernel_rfl
theorem sized32 : sized Tryz.prog 32 = true := by kernel_rfl
theorem places32_0 : places Tryz.prog 32 0 = some (0, 1) := by kernel_rfl
theorem places32_1 : places Tryz.prog 32 1 = some (1, 1) := by kernel_rfl
theorem places32_2 : places Tryz.prog 32 2 = some (2, 1) := by kernel_rfl
theorem places32_3 : places Tryz.prog 32 3 = some (3, 1) := by kernel_rfl
theorem places32_4 : places Tryz.prog 32 4 = some (4, 1) := by kernel_rfl
theorem places32_5 : places Tryz.prog 32 5 = some (5, 1) := by kernel_rfl
theorem places32_6 : places Tryz.prog 32 6 = some (6, 1) := by kernel_rfl
theorem places32_7 : places Tryz.prog 32 7 = some (7, 1) := by kernel_rfl
theorem places32_8 : places Tryz.prog 32 8 = some (8, 1) := by kernel_rfl
theorem places32_9 : places Tryz.prog 32 9 = some (9, 1) := by kernel_rfl
theorem sized38 : sized Tryz.prog 38 = true := by kernel_rfl
theorem places38_0 : places Tryz.prog 38 0 = some (0, 1) := by kernel_rfl
theorem places38_1 : places Tryz.prog 38 1 = some (1, 1) := by kernel_rfl
theorem places38_2 : places Tryz.prog 38 2 = some (2, 1) := by kernel_rfl
theorem sized54 : sized Tryz.prog 54 = true := by kernel_rfl
theorem places54_0 : places Tryz.prog 54 0 = some (0, 1) := by kernel_rfl
theorem places54_1 : places Tryz.prog 54 1 = some (1, 1) := by kernel_rfl
theorem places54_2 : places Tryz.prog 54 2 = some (2, 1) := by kernel_rfl
theorem places54_3 : places Tryz.prog 54 3 = some (3, 1) := by kernel_rfl
theorem places54_4 : places Tryz.prog 54 4 = some (4, 1) := by kernel_rfl
theorem places54_5 : places Tryz.prog 54 5 = some (5, 1) := by kernel_rfl
theorem sized79 : sized Tryz.prog 79 = true := by kernel_rfl
theorem places79_0 : places Tryz.prog 79 0 = some (0, 1) := by kernel_rfl
theorem places79_1 : places Tryz.prog 79 1 = some (1, 1) := by kernel_rfl
theorem places79_2 : places Tryz.prog 79 2 = some (2, 1) := by kernel_rfl
theorem sized117 : sized Tryz.prog 117 = true := by kernel_rfl
theorem places117_0 : places Tryz.prog 117 0 = some (0, 1) := by kernel_rfl
theorem places117_1 : places Tryz.prog 117 1 = some (1, 1) := by kernel_rfl
theorem places117_2 : places Tryz.prog 117 2 = some (2, 3) := by kernel_rfl
theorem sized119 : sized Tryz.prog 119 = true := by kernel_rfl
theorem places119_0 : places Tryz.prog 119 0 = some (0, 1) := by kernel_rfl
theorem places119_1 : places Tryz.prog 119 1 = some (1, 3) := by kernel_rfl
theorem sized121 : sized Tryz.prog 121 = true := by kernel_rfl
theorem places121_0 : places Tryz.prog 121 0 = some (0, 5) := by kernel_rfl
theorem places121_1 : places Tryz.prog 121 1 = some (5, 1) := by kernel_rfl
theorem places121_2 : places Tryz.prog 121 2 = some (6, 5) := by kernel_rfl
theorem places121_3 : places Tryz.prog 121 3 = some (11, 1) := by kernel_rfl
theorem sized220 : sized Tryz.prog 220 = true := by kernel_rfl
theorem places220_0 : places Tryz.prog 220 0 = some (0, 1) := by kernel_rfl
theorem places220_1 : places Tryz.prog 220 1 = some (1, 1) := by kernel_rfl
abbrev sint (n : Int) : SV := .pv (.lit (.int .i64 n))
abbrev sbool (b : Bool) : SV := .pv (.lit (.bool b))
abbrev sstr (s : ByteArray) : SV := .pv (.lit (.string s))
abbrev pint (n : Int) : PV := .lit (.int .i64 n)
abbrev ints (xs : List Int) : List (List PV) := xs.map fun n => [.lit (.int .i64 n)]
end Go.Proofs.T1
/- Part Wa: what a value also is. -/
namespace Go.Vc
open Go.RowKit
variable {P : Program} {n0 : Nat} {r : Option Nat} {st : St}
/-- Whatever is the first is the second too. -/
def PLe (p q : PV) : Prop := ∀ (I : Nat → Nat → Prop) (w : World) (v : Value), Rep I w p v → Rep I w q v
theorem PLe.refl (p : PV) : PLe p p := fun _ _ _ h => h
theorem Rep.nil {I : Nat → Nat → Prop} {w : World} (es : Nat) : Rep I w (.sl es []) (.slice none 0 0) :=
  .sl es [] none 0 0 (fun _ _ => undef) rfl (Nat.le_refl _) (by simp [maxLen]) (fun h => absurd h (by omega)) (fun x h => by simp at h) (fun ad i j p e => by cases e) (fun i j p h => by simp [get2] at h)
theorem PLe.nil (es : Nat) : PLe (.lit (.slice none 0 0)) (.sl es []) := fun I w v hv => by cases hv; exact Rep.nil es
theorem PLe.sl (es : Nat) (xs ys : List (List PV)) (hl : xs.length = ys.length) (hes : ∀ y ∈ ys, y.length = es) (h : ∀ i j q, get2 ys i j = some q → ∃ p, get2 xs i j = some p ∧ PLe p q) : PLe (.sl es xs) (.sl es ys) := fun I w v hv => by
  cases hv with
  | sl _ _ A n c u hn hc hmax hA hes' hcell hrep =>
    refine .sl es ys A n c u (by omega) hc hmax hA hes (fun ad i j q e hg => ?_) (fun i j q hg => ?_)
    · obtain ⟨p, hp, _⟩ := h i j q hg
      exact hcell ad i j p e hp
    · obtain ⟨p, hp, hle⟩ := h i j q hg
      exact hle _ _ _ (hrep i j p hp)
theorem PLe.rep {p q : PV} (h : PLe p q) {I : Nat → Nat → Prop} {w : World} {v : Value} (hv : Rep I w p v) : Rep I w q v := h I w v hv
/-- Cell by cell. -/
inductive PLs : List PV → List PV → Prop where
  | nil : PLs [] []
  | cons {p q : PV} {l m : List PV} (h : PLe p q) (t : PLs l m) : PLs (p :: l) (q :: m)
theorem PLs.refl : ∀ l : List PV, PLs l l
  | [] => .nil
  | p :: l => .cons (.refl p) (PLs.refl l)
theorem PLs.len {l m : List PV} (h : PLs l m) : l.length = m.length := by induction h with | nil => rfl | cons _ _ ih => simp [ih]
theorem PLs.get {l m : List PV} (h : PLs l m) : ∀ (j : Nat) q, m[j]? = some q → ∃ p, l[j]? = some p ∧ PLe p q := by
  induction h with
  | nil => intro j q hj; simp at hj
  | @cons p q l m h t ih =>
    intro j q' hj
    cases j with
    | zero => simp only [List.getElem?_cons_zero, Option.some.injEq] at hj; subst hj; exact ⟨p, rfl, h⟩
    | succ j => exact ih j q' (by simpa using hj)
/-- Element by element. -/
inductive PLss : List (List PV) → List (List PV) → Prop where
  | nil : PLss [] []
  | cons {p q : List PV} {l m : List (List PV)} (h : PLs p q) (t : PLss l m) : PLss (p :: l) (q :: m)
theorem PLss.refl : ∀ l : List (List PV), PLss l l
  | [] => .nil
  | p :: l => .cons (.refl p) (PLss.refl l)
theorem PLss.len {l m : List (List PV)} (h : PLss l m) : l.length = m.length := by induction h with | nil => rfl | cons _ _ ih => simp [ih]
theorem PLss.get {l m : List (List PV)} (h : PLss l m) : ∀ (j : Nat) q, m[j]? = some q → ∃ p, l[j]? = some p ∧ PLs p q := by
  induction h with
  | nil => intro j q hj; simp at hj
  | @cons p q l m h t ih =>
    intro j q' hj
    cases j with
    | zero => simp only [List.getElem?_cons_zero, Option.some.injEq] at hj; subst hj; exact ⟨p, rfl, h⟩
    | succ j => exact ih j q' (by simpa using hj)
theorem PLe.ofs {es : Nat} {xs ys : List (List PV)} (h : PLss xs ys) (hes : ∀ y ∈ ys, y.length = es) : PLe (.sl es xs) (.sl es ys) :=
  .sl es xs ys h.len hes fun i j q hq => by
    unfold get2 at hq ⊢
    obtain ⟨m, hm, hq⟩ := Option.bind_eq_some_iff.1 hq
    obtain ⟨l, hl, hs⟩ := h.get i m hm
    obtain ⟨p, hp, hle⟩ := hs.get j q hq
    exact ⟨p, by rw [hl]; exact hp, hle⟩
inductive SLe : SV → SV → Prop where
  | refl (s : SV) : SLe s s
  | pv {p q : PV} (h : PLe p q) : SLe (.pv p) (.pv q)
  | agg {l m : List PV} (h : PLs l m) : SLe (.agg l) (.agg m)
theorem SLe.rel {a b : SV} (h : SLe a b) {I φ w v} (hs : Srel I φ w a v) : Srel I φ w b v := by
  cases h with
  | refl => exact hs
  | pv h => cases hs with | pv _ _ hr => exact .pv _ _ (h.rep hr)
  | agg h =>
    cases hs with
    | agg _ vs hl hall =>
      refine .agg _ vs (hl.trans h.len) fun j q u hj hu => ?_
      obtain ⟨p, hp, hle⟩ := h.get j q hj
      exact hle.rep (hall j p u hp hu)
theorem SLe.const {a b : SV} (h : SLe a b) (hc : a.const = true) : b.const = true := by cases h <;> first | exact hc | rfl
inductive SLs : List SV → List SV → Prop where
  | nil : SLs [] []
  | cons {p q : SV} {l m : List SV} (h : SLe p q) (t : SLs l m) : SLs (p :: l) (q :: m)
theorem SLs.refl : ∀ l : List SV, SLs l l
  | [] => .nil
  | p :: l => .cons (.refl p) (SLs.refl l)
theorem SLs.len {l m : List SV} (h : SLs l m) : l.length = m.length := by induction h with | nil => rfl | cons _ _ ih => simp [ih]
theorem SLs.get {l m : List SV} (h : SLs l m) : ∀ (j : Nat) q, m[j]? = some q → ∃ p, l[j]? = some p ∧ SLe p q := by
  induction h with
  | nil => intro j q hj; simp at hj
  | @cons p q l m h t ih =>
    intro j q' hj
    cases j with
    | zero => simp only [List.getElem?_cons_zero, Option.some.injEq] at hj; subst hj; exact ⟨p, rfl, h⟩
    | succ j => exact ih j q' (by simpa using hj)
theorem CC.args {f : Nat} {a b : List SV} {Q : SV → Prop} (h : CC P f b Q) (hab : SLs a b) : CC P f a Q :=
  ⟨h.1, fun I φ w vs hRH hl hs => h.2 I φ w vs hRH (hl.trans hab.len) fun j sv u hj hu => by
    obtain ⟨p, hp, hle⟩ := hab.get j sv hj
    exact hle.rel (hs j p u hp hu)⟩
/-- The result, too. -/
theorem CC.res {f : Nat} {a : List SV} {b : SV} (h : CC P f a (fun sv => SLe sv b)) : CC P f a (fun sv => sv = b) :=
  ⟨h.1, fun I φ w vs hRH hl hs => (h.2 I φ w vs hRH hl hs).mono fun _ _ ⟨v, sv, nx', H', I', φ', e, ⟨hq, hc⟩, h1, h2, h3, h4⟩ =>
    ⟨v, b, nx', H', I', φ', e, ⟨rfl, hq.const hc⟩, h1, h2, hq.rel h3, h4⟩⟩
theorem pwl_callk' {ops : Array Oper} {o : Oper} {l : List Oper} {K : St → Prop} {c : Call} {x : Operand} {f : Nat} {svs cs cs' : List SV} {Qr : SV → Prop} (live : Bool) (hg : gate ops st o = some true)
    (ho : o.op = .call c) (hx : c.callee = .value x) (hv : st.ev x = some (.clos f [])) (ha : st.evs c.args.toList = some svs) (hb : bors st.h live svs = some cs) (hf : st.fits o.dst = true) (hC : CC P f cs' Qr) (hle : SLs cs cs')
    (hK : ∀ sv, Qr sv → sv.const = true → (live = true → sv.scalar = true) ∧ PWl P n0 r ops l K (st.put o.dst sv)) : PWl P n0 r ops (o :: l) K st := pwl_callk live hg ho hx hv ha hb hf (hC.args hle) hK
/-- A cell of a box seen otherwise. -/
theorem R.recell {I φ a w} (h : R I φ st a w) {b j : Nat} {cs : List SV} {sv sv' : SV} (hl : lk b st.h = some (.box cs)) (hj : cs[j]? = some sv) (hs : ∀ v, Srel I φ w sv v → Srel I φ w sv' v) :
    R I φ (st.upd b (.box (cs.set j sv'))) a w ∧ Ev n0 I φ st.h w I φ (st.upd b (.box (cs.set j sv'))).h w := by
  obtain ⟨blk, c, t, vs, h1, h2, h3, h4⟩ := h.rh.blk _ _ hl
  have hmb : ∀ l, mblk φ b (.box l) = some blk := fun l => by simp [mblk, h1]
  refine h.upd (n0 := n0) (w' := w) (blk' := .box (cs.set j sv')) hl (hmb _) ⟨rfl, rfl, rfl, Nat.le_refl _, rfl⟩ (fun _ _ => rfl) ⟨blk, c, t, vs, h1, h2, by simpa using h3, fun k s hk => ?_⟩ rfl (hmb _)
  rw [List.getElem?_set] at hk
  split at hk
  · rename_i e
    subst e
    split at hk
    · injection hk with hk
      subst hk
      obtain ⟨u, hu, hr⟩ := h4 j sv hj
      exact ⟨u, hu, hs u hr⟩
    · cases hk
  · exact h4 k s hk
/-- A nil slice in a variable becomes an array of one's own of no elements. -/
theorem ent_adopt {b j t es : Nat} {cs : List SV} (hl : lk b st.h = some (.box cs)) (hj : cs[j]? = some (.pv (.lit (.slice none 0 0)))) (he : 0 < es) :
    Ent n0 st { st with nx := st.nx + 1, h := (st.nx, .arr t es 0 false []) :: hset b (.box (cs.set j (.loc es st.nx 0 0 0))) st.h } := fun I φ a w hR hn => by
  obtain ⟨h1, h2, h3⟩ := hR.new (n0 := n0) hn (w' := w) (blk := .arr t es 0 false []) (x := none) ⟨rfl, rfl, rfl, Nat.le_refl _, Nat.le_refl _⟩ (fun _ _ => rfl) ⟨he, by simp, .inl ⟨phiNew_same, rfl⟩⟩ rfl (fun b hb => by simp [mblk, phiNew_same] at hb)
  have hbn : st.nx ≠ b := fun e => by have := hR.rh.lt hl; omega
  have hl' : lk b (st.new (.arr t es 0 false [])).h = some (.box cs) := by simp only [St.new, lk, if_neg hbn]; exact hl
  obtain ⟨k1, k2⟩ := h1.recell (n0 := n0) (sv' := .loc es st.nx 0 0 0) hl' hj fun v hv => by
    have := hv.lit_inv
    subst this
    exact .locNil es st.nx 0 phiNew_same
  have e : (st.new (.arr t es 0 false [])).upd b (.box (cs.set j (.loc es st.nx 0 0 0))) = { st with nx := st.nx + 1, h := (st.nx, .arr t es 0 false []) :: hset b (.box (cs.set j (.loc es st.nx 0 0 0))) st.h } := by
    simp only [St.new, St.upd, hset, if_neg hbn]
  rw [e] at k1 k2
  exact ⟨I, _, k1, h3, h2.trans k2⟩
theorem ent_adopts {v t es : Nat} (hl : lk v st.s = some (.pv (.lit (.slice none 0 0)))) (he : 0 < es) :
    Ent n0 st { st with nx := st.nx + 1, s := (v, .loc es st.nx 0 0 0) :: st.s, h := (st.nx, .arr t es 0 false []) :: st.h } := fun I φ a w hR hn => by
  obtain ⟨h1, h2, h3⟩ := hR.new (n0 := n0) hn (w' := w) (blk := .arr t es 0 false []) (x := none) ⟨rfl, rfl, rfl, Nat.le_refl _, Nat.le_refl _⟩ (fun _ _ => rfl) ⟨he, by simp, .inl ⟨phiNew_same, rfl⟩⟩ rfl (fun b hb => by simp [mblk, phiNew_same] at hb)
  refine ⟨I, _, ⟨h1.rh, h1.size, fun t' sv ht => ?_, h1.dlen, h1.dmark⟩, h3, h2⟩
  simp only [lk] at ht
  split at ht
  · rename_i e
    subst e
    injection ht with ht
    subst ht
    rw [(hR.slot v _ hl).lit_inv]
    exact .locNil es st.nx 0 phiNew_same
  · exact h1.slot t' sv ht
end Go.Vc
namespace Go.Proofs.T1
open Go.Vc
open Tryz
set_option linter.unusedSimpArgs false
set_option linter.unusedVariables false
set_option maxHeartbeats 4000000
set_option maxRecDepth 20000
attribute [local simp] runD_nil runD_cons runDO runDG runDV stabs stabO stabG runK_nil runK_cons runG_t runG_f runS_some runS_none gate dstOf step2 step1 vq vop vlook mput mfind isKeyB keq fin1 hbox halloc hstore hbuild hbuildSlice happend hmake vslice bound vbuild partsOf elemsOf inOrder topvs toPV svCells splice srcOf isNil St.ev St.evs St.fits St.put St.new St.upd St.frzs St.frz lk hset litOf vbuiltin vlen vbin vindex vfield vload rdc pvs capsOf Value.oneCell'
attribute [local simp] tsz3 tagg3 tbytes3 tint3 tzero3 tzero1_3 tsz4 tagg4 tbytes4 tbool4 tzero4 tzero1_4 tsz5 tagg5 tbytes5 tint5 tzero5 tzero1_5 tsz9 tagg9 tbytes9 tstr9 tzero9 tzero1_9 tsz22 tagg22 tel22 tbytes22 tzero22 tzero1_22 tsz23 tagg23 tel23 tbytes23 tzero23 tzero1_23 tsz24 tagg24 tel24 tbytes24 tzero24 tzero1_24 tsz25 tagg25 tbytes25 tzero25 tzero1_25 tsz29 tagg29 tel29 tbytes29 tzero29 tzero1_29 tsz30 tagg30 tel30 tbytes30 tzero30 tzero1_30 tsz32 tagg32 tbytes32 tzero32 foff32_0 foff32_1 foff32_2 foff32_3 foff32_4 foff32_5 foff32_6 foff32_7 foff32_8 foff32_9 tsz33 tagg33 tel33 tbytes33 tzero33 tzero1_33 tsz34 tagg34 tbytes34 tint34 tzero34 tzero1_34 tsz38 tagg38 tbytes38 tzero38 foff38_0 foff38_1 foff38_2 tsz47 tagg47 tel47 tbytes47 tzero47 tzero1_47 tsz52 tagg52 tel52 tbytes52 tzero52 tzero1_52 tsz54 tagg54 tbytes54 tzero54 foff54_0 foff54_1 foff54_2 foff54_3 foff54_4 foff54_5 tsz79 tagg79 tbytes79 tzero79 foff79_0 foff79_1 foff79_2 tsz117 tagg117 tbytes117 tzero117 foff117_0 foff117_1 foff117_2 tsz119 tagg119 tbytes119 tzero119 foff119_0 foff119_1 tsz121 tagg121 tbytes121 tzero121 foff121_0 foff121_1 foff121_2 foff121_3 tsz129 tagg129 tbytes129 tzero129 tzero1_129 tsz130 tagg130 tbytes130 tzero130 tzero1_130 tsz132 tagg132 tbytes132 tzero132 tzero1_132 tsz206 tagg206 tbytes206 tzero206 tzero1_206 mtype206 tsz208 tagg208 tbytes208 tsz217 tagg217 tel217 tbytes217 tzero217 tzero1_217 tsz220 tagg220 tbytes220 tzero220 foff220_0 foff220_1 tsz235 tagg235 tel235 tbytes235 tzero235 tzero1_235 tsz256 tagg256 tbytes256 tzero256 tzero1_256 mtype256 tsz351 tagg351 tbytes351 tzero351 tsz2 tagg2 tbytes2 tint2 tzero2 tzero1_2 tsz291 tagg291 tbytes291 tint291 tzero291 tzero1_291 sized32 places32_0 places32_1 places32_2 places32_3 places32_4 places32_5 places32_6 places32_7 places32_8 places32_9 sized38 places38_0 places38_1 places38_2 sized54 places54_0 places54_1 places54_2 places54_3 places54_4 places54_5 sized79 places79_0 places79_1 places79_2 sized117 places117_0 places117_1 places117_2 sized119 places119_0 places119_1 sized121 places121_0 places121_1 places121_2 places121_3 sized220 places220_0 places220_1
section
theorem enters149 : Enters Tryz.prog 149 := enters_mk Tryz.func149 (by kernel_rfl) (by kernel_rfl)
theorem enters150 : Enters Tryz.prog 150 := enters_mk Tryz.func150 (by kernel_rfl) (by kernel_rfl)
theorem enters204 : Enters Tryz.prog 204 := enters_mk Tryz.func204 (by kernel_rfl) (by kernel_rfl)
theorem enters151 : Enters Tryz.prog 151 := enters_mk Tryz.func151 (by kernel_rfl) (by kernel_rfl)
def sgn (a b : Int) : Int := if a < b then -1 else if a > b then 1 else 0
theorem order_ok (a b : Int) : CC Tryz.prog 150 [sint a, sint b] (fun sv => sv = sint (sgn a b)) := by
  refine cc_of_pw Tryz.func150 rfl enters150 Tryz.ntmps150 (by simp) (pw_of_pws ?_)
  repeat' (first | with_reducible refine pws_seq ?_ | with_reducible refine pws_skip ?_ | with_reducible refine pws_block ?_ | ((with_reducible refine pws_regk fun K' S hK' hS => ?_); simp [argSlots, *]) | ((with_reducible refine Goes.go hK' ?_); clear hK' hS; clear K' S) | ((with_reducible refine pws_condk (k := ?_) ?_ (fun hb => ?_) (fun hb => ?_)); rotate_left; (· rfl); all_goals (try (simp only [decide_eq_true_eq, decide_eq_false_iff_not, Bool.not_eq_true', Bool.not_eq_false', Decidable.not_not, Bool.not_eq_true, Bool.not_eq_false, Bool.and_eq_true, beq_iff_eq] at hb))) | with_reducible refine pws_ret ?_ | with_reducible refine blk_ret ?_ | with_reducible refine blk_normal ?_ | with_reducible refine pws_nil ?_)
  all_goals (refine finC_ret (vs := ?_) [] (by first | exact .inr rfl | exact .inl rfl) rfl ?_ ?_ ?_; rotate_left; (· simp [Tryz.results150, resL, resOf]; rfl); (· first | rfl | (simp [wrapRes, cv, SV.const, constL]; done)); (· first | (simp [wrapRes, cv, sgn, *]; done) | (simp [wrapRes, cv, sgn, *]; grind) | (simp [wrapRes, cv, sgn, *]; omega)))
abbrev pval (k n : Int) (t : ByteArray) : List PV := [pint k, pint n, .lit (.string t)]
def rValid (k n : Int) (t : ByteArray) : Bool :=
  (k = 0 ∧ n = 0 ∧ t = ⟨#[]⟩) ∨ (k = 1 ∧ n = 0 ∧ t.size ≤ 200) ∨ (k = 2 ∧ -1000000000 ≤ n ∧ n ≤ 1000000000 ∧ t = ⟨#[]⟩) ∨ (k = 3 ∧ 0 ≤ n ∧ n ≤ 73048 ∧ t = ⟨#[]⟩) ∨ (k = 4 ∧ (n = 0 ∨ n = 1) ∧ t = ⟨#[]⟩)
theorem enters205 : Enters Tryz.prog 205 := enters_mk Tryz.func205 (by kernel_rfl) (by kernel_rfl)
theorem enters206 : Enters Tryz.prog 206 := enters_mk Tryz.func206 (by kernel_rfl) (by kernel_rfl)
theorem enters207 : Enters Tryz.prog 207 := enters_mk Tryz.func207 (by kernel_rfl) (by kernel_rfl)
theorem enters208 : Enters Tryz.prog 208 := enters_mk Tryz.func208 (by kernel_rfl) (by kernel_rfl)
theorem enters152 : Enters Tryz.prog 152 := enters_mk Tryz.func152 (by kernel_rfl) (by kernel_rfl)
theorem enters90 : Enters Tryz.prog 90 := enters_mk Tryz.func90 (by kernel_rfl) (by kernel_rfl)
theorem vValid_ok (k n : Int) (t : ByteArray) : CC Tryz.prog 149 [.agg (pval k n t)] (fun sv => sv = sbool (rValid k n t)) := by
  refine cc_of_pw Tryz.func149 rfl enters149 Tryz.ntmps149 (by simp) (pw_of_pws ?_)
  repeat' (first | with_reducible refine pws_seq ?_ | with_reducible refine pws_skip ?_ | with_reducible refine pws_block ?_ | ((with_reducible refine pws_regk fun K' S hK' hS => ?_); simp [argSlots, *]) | ((with_reducible refine Goes.go hK' ?_); clear hK' hS; clear K' S) | ((with_reducible refine pws_true ?_ ?_); (· simp; done)) | ((with_reducible refine pws_false ?_ ?_); (· simp; done)) | ((with_reducible refine pws_condk (k := ?_) ?_ (fun hb => ?_) (fun hb => ?_)); rotate_left; (· rfl); all_goals (try (simp only [decide_eq_true_eq, decide_eq_false_iff_not, Bool.not_eq_true', Bool.not_eq_false', Decidable.not_not, Bool.not_eq_true, Bool.not_eq_false, Bool.and_eq_true, beq_iff_eq] at hb))) | with_reducible refine pws_ret ?_ | with_reducible refine blk_ret ?_ | with_reducible refine blk_normal ?_ | with_reducible refine pws_nil ?_ | ((with_reducible refine runG_split (fun hb => ?_) (fun hb => ?_)); all_goals ((try (simp only [decide_eq_true_eq, decide_eq_false_iff_not, Bool.not_eq_true', Bool.not_eq_false', Decidable.not_not, Bool.not_eq_true, Bool.not_eq_false, Bool.and_eq_true, beq_iff_eq] at hb)); simp [argSlots, *])))
  all_goals (refine finC_ret (vs := ?_) [] (by first | exact .inr rfl | exact .inl rfl) rfl ?_ ?_ ?_; rotate_left; (· simp [Tryz.results149, resL, resOf]; rfl); (· first | rfl | (simp [wrapRes, cv, SV.const, constL]; done)); (· first | (simp [wrapRes, cv, rValid, *]; done) | (simp [wrapRes, cv, rValid, *]; grind) | (simp [wrapRes, cv, rValid, *]; omega)))
def sless (a b : ByteArray) : Bool := Op.bytesLess a.toList b.toList
def sgnS (a b : ByteArray) : Int := if sless a b then -1 else if a = b then 0 else 1
theorem orderS_ok (a b : ByteArray) : CC Tryz.prog 204 [sstr a, sstr b] (fun sv => sv = sint (sgnS a b)) := by
  refine cc_of_pw Tryz.func204 rfl enters204 Tryz.ntmps204 (by simp) (pw_of_pws ?_)
  repeat' (first | with_reducible refine pws_seq ?_ | with_reducible refine pws_skip ?_ | with_reducible refine pws_block ?_ | ((with_reducible refine pws_regk fun K' S hK' hS => ?_); simp [argSlots, *]) | ((with_reducible refine Goes.go hK' ?_); clear hK' hS; clear K' S) | ((with_reducible refine pws_condk (k := ?_) ?_ (fun hb => ?_) (fun hb => ?_)); rotate_left; (· rfl); all_goals (try (simp only [decide_eq_true_eq, decide_eq_false_iff_not, Bool.not_eq_true', Bool.not_eq_false', Decidable.not_not, Bool.not_eq_true, Bool.not_eq_false, Bool.and_eq_true, beq_iff_eq] at hb))) | with_reducible refine pws_ret ?_ | with_reducible refine blk_ret ?_ | with_reducible refine blk_normal ?_ | with_reducible refine pws_nil ?_)
  all_goals (refine finC_ret (vs := ?_) [] (by first | exact .inr rfl | exact .inl rfl) rfl ?_ ?_ ?_; rotate_left; (· simp [Tryz.results204, resL, resOf]; rfl); (· first | rfl | (simp [wrapRes, cv, SV.const, constL]; done)); (· first | (simp [wrapRes, cv, sgnS, sless, *]; done) | (simp [wrapRes, cv, sgnS, sless, *]; grind) | (simp [wrapRes, cv, sgnS, sless, *]; omega)))
def vCmp (k n : Int) (t : ByteArray) (k' n' : Int) (t' : ByteArray) : Int := if sgn k k' ≠ 0 then sgn k k' else if sgn n n' ≠ 0 then sgn n n' else sgnS t t'
theorem vCompare_ok (k n : Int) (t : ByteArray) (k' n' : Int) (t' : ByteArray) : CC Tryz.prog 151 [.agg (pval k n t), .agg (pval k' n' t')] (fun sv => sv = sint (vCmp k n t k' n' t')) := by
  refine cc_of_pw Tryz.func151 rfl enters151 Tryz.ntmps151 (by simp) (pw_of_pws ?_)
  repeat' (first | with_reducible refine pws_seq ?_ | with_reducible refine pws_skip ?_ | ((with_reducible refine pws_regk fun K' S hK' hS => ?_); simp [argSlots, *]) | ((with_reducible refine Goes.go hK' ?_); clear hK' hS; clear K' S) | ((with_reducible refine GoesS.go hS ?_); clear hK' hS; clear K' S) | ((with_reducible refine pws_condk (k := ?_) ?_ (fun hb => ?_) (fun hb => ?_)); rotate_left; (· rfl); all_goals (try (simp only [decide_eq_true_eq, decide_eq_false_iff_not, Bool.not_eq_true', Bool.not_eq_false', Decidable.not_not, Bool.not_eq_true, Bool.not_eq_false, Bool.and_eq_true, beq_iff_eq] at hb))) | with_reducible refine pws_ret ?_ | ((with_reducible refine pwl_callk (c := ?_) (x := ?_) (f := ?_) (svs := ?_) (cs := ?_) (Qr := ?_) true ?_ ?_ ?_ ?_ ?_ ?_ ?_ ?_ ?_); rotate_left 6; (· (simp [argSlots, *]; done)); (· rfl); (· rfl); (· (simp; with_reducible rfl)); (· (simp; with_reducible rfl)); (· first | (simp [bors, bor]; with_reducible rfl) | (simp [bors, bor, *]; with_reducible rfl)); (· rfl); (· ((with_reducible refine order_ok _ _))); (rintro sv hsv hsc; clear hsc; obtain rfl := hsv; refine ⟨(by first | (intro _; rfl) | (intro h; cases h)), ?_⟩; refine pwl_runk fun K' S hK' hS => ?_; simp [argSlots, *])) | ((with_reducible refine pwl_callk (c := ?_) (x := ?_) (f := ?_) (svs := ?_) (cs := ?_) (Qr := ?_) true ?_ ?_ ?_ ?_ ?_ ?_ ?_ ?_ ?_); rotate_left 6; (· (simp [argSlots, *]; done)); (· rfl); (· rfl); (· (simp; with_reducible rfl)); (· (simp; with_reducible rfl)); (· first | (simp [bors, bor]; with_reducible rfl) | (simp [bors, bor, *]; with_reducible rfl)); (· rfl); (· ((with_reducible refine orderS_ok _ _))); (rintro sv hsv hsc; clear hsc; obtain rfl := hsv; refine ⟨(by first | (intro _; rfl) | (intro h; cases h)), ?_⟩; refine pwl_runk fun K' S hK' hS => ?_; simp [argSlots, *])))
  all_goals (refine finC_ret (vs := ?_) [] (by first | exact .inr rfl | exact .inl rfl) rfl ?_ ?_ ?_; rotate_left; (· simp [Tryz.results151, resL, resOf]; rfl); (· first | rfl | (simp [wrapRes, cv, SV.const, constL]; done)); (· first | (simp [wrapRes, cv, vCmp, *]; done) | (simp [wrapRes, cv, vCmp, *]; grind) | (simp [wrapRes, cv, vCmp, *]; omega)))
end
section
/-- Does a comparison hold? -/
def opHolds (op c : Int) : Bool := if op = 1 then c = 0 else if op = 2 then c ≠ 0 else if op = 3 then c < 0 else if op = 4 then c ≤ 0 else false
def rTest (k n : Int) (t : ByteArray) (op : Int) (k' n' : Int) (t' : ByteArray) (add : Int) : Bool :=
  if ¬ rValid k n t ∨ ¬ rValid k' n' t' ∨ k ≠ k' ∨ k = 0 then false
  else if add ≠ 0 ∧ k ≠ 2 ∧ k ≠ 3 then false
  else opHolds op (if k = 1 then vCmp k n t k' n' t' else sgn (IntKind.i64.wrap (n - n')) add)
theorem c205_ok (c : Int) : CC Tryz.prog 205 [sint c] (fun sv => sv = sbool (opHolds 1 c)) := by
  refine cc_of_pw Tryz.func205 rfl enters205 Tryz.ntmps205 (by simp) (pw_of_pws ?_)
  repeat' (first | with_reducible refine pws_seq ?_ | ((with_reducible refine pws_regk fun K' S hK' hS => ?_); simp [argSlots, *]) | ((with_reducible refine Goes.go hK' ?_); clear hK' hS; clear K' S) | with_reducible refine pws_ret ?_)
  all_goals (refine finC_ret (vs := ?_) [] (by first | exact .inr rfl | exact .inl rfl) rfl ?_ ?_ ?_; rotate_left; (· simp [Tryz.results205, resL, resOf]; rfl); (· first | rfl | (simp [wrapRes, cv, SV.const, constL]; done)); (· first | (simp [wrapRes, cv, opHolds, *]; done) | (simp [wrapRes, cv, opHolds, *]; grind) | (simp [wrapRes, cv, opHolds, *]; omega)))
theorem c206_ok (c : Int) : CC Tryz.prog 206 [sint c] (fun sv => sv = sbool (opHolds 2 c)) := by
  refine cc_of_pw Tryz.func206 rfl enters206 Tryz.ntmps206 (by simp) (pw_of_pws ?_)
  repeat' (first | with_reducible refine pws_seq ?_ | ((with_reducible refine pws_regk fun K' S hK' hS => ?_); simp [argSlots, *]) | ((with_reducible refine Goes.go hK' ?_); clear hK' hS; clear K' S) | with_reducible refine pws_ret ?_)
  all_goals (refine finC_ret (vs := ?_) [] (by first | exact .inr rfl | exact .inl rfl) rfl ?_ ?_ ?_; rotate_left; (· simp [Tryz.results206, resL, resOf]; rfl); (· first | rfl | (simp [wrapRes, cv, SV.const, constL]; done)); (· first | (simp [wrapRes, cv, opHolds, *]; done) | (simp [wrapRes, cv, opHolds, *]; grind) | (simp [wrapRes, cv, opHolds, *]; omega)))
theorem c207_ok (c : Int) : CC Tryz.prog 207 [sint c] (fun sv => sv = sbool (opHolds 3 c)) := by
  refine cc_of_pw Tryz.func207 rfl enters207 Tryz.ntmps207 (by simp) (pw_of_pws ?_)
  repeat' (first | with_reducible refine pws_seq ?_ | ((with_reducible refine pws_regk fun K' S hK' hS => ?_); simp [argSlots, *]) | ((with_reducible refine Goes.go hK' ?_); clear hK' hS; clear K' S) | with_reducible refine pws_ret ?_)
  all_goals (refine finC_ret (vs := ?_) [] (by first | exact .inr rfl | exact .inl rfl) rfl ?_ ?_ ?_; rotate_left; (· simp [Tryz.results207, resL, resOf]; rfl); (· first | rfl | (simp [wrapRes, cv, SV.const, constL]; done)); (· first | (simp [wrapRes, cv, opHolds, *]; done) | (simp [wrapRes, cv, opHolds, *]; grind) | (simp [wrapRes, cv, opHolds, *]; omega)))
theorem c208_ok (c : Int) : CC Tryz.prog 208 [sint c] (fun sv => sv = sbool (opHolds 4 c)) := by
  refine cc_of_pw Tryz.func208 rfl enters208 Tryz.ntmps208 (by simp) (pw_of_pws ?_)
  repeat' (first | with_reducible refine pws_seq ?_ | ((with_reducible refine pws_regk fun K' S hK' hS => ?_); simp [argSlots, *]) | ((with_reducible refine Goes.go hK' ?_); clear hK' hS; clear K' S) | with_reducible refine pws_ret ?_)
  all_goals (refine finC_ret (vs := ?_) [] (by first | exact .inr rfl | exact .inl rfl) rfl ?_ ?_ ?_; rotate_left; (· simp [Tryz.results208, resL, resOf]; rfl); (· first | rfl | (simp [wrapRes, cv, SV.const, constL]; done)); (· first | (simp [wrapRes, cv, opHolds, *]; done) | (simp [wrapRes, cv, opHolds, *]; grind) | (simp [wrapRes, cv, opHolds, *]; omega)))
abbrev pfun (f : Nat) : PV := .lit (.func (.func f) #[] #[])
abbrev comps : List (List PV) := [[pint 1, pfun 205], [pint 2, pfun 206], [pint 3, pfun 207], [pint 4, pfun 208]]
theorem comparisons_ok : CC Tryz.prog 152 [] (fun sv => sv = .pv (.sl 2 comps)) := by
  refine cc_of_pw Tryz.func152 rfl enters152 Tryz.ntmps152 (by simp) (pw_of_pws ?_)
  repeat' (first | with_reducible refine pws_seq ?_ | ((with_reducible refine pws_regk fun K' S hK' hS => ?_); simp [argSlots, *]) | ((with_reducible refine Goes.go hK' ?_); clear hK' hS; clear K' S) | with_reducible refine pws_ret ?_)
  all_goals (refine finC_ret (vs := ?_) [.loc 2 0 0 0 4] (by first | exact .inr rfl | exact .inl rfl) rfl ?_ ?_ ?_; rotate_left; (· simp [Tryz.results152, resL, resOf]; rfl); (· first | rfl | (simp [wrapRes, cv, SV.const, constL]; done)); (· first | (simp [wrapRes, cv, *]; done) | (simp [wrapRes, cv, *]; grind) | (simp [wrapRes, cv, *]; omega)))
/-- value.Test, as its text says. -/
def vTest (k n : Int) (t : ByteArray) (op : Int) (k' n' : Int) (t' : ByteArray) (add : Int) : Bool :=
  if ¬ rValid k n t ∨ ¬ rValid k' n' t' ∨ k ≠ k' then false
  else if k = 2 ∨ k = 3 then opHolds op (sgn (IntKind.i64.wrap (n - n')) add)
  else if k = 1 ∨ k = 4 then (if add ≠ 0 then false else opHolds op (vCmp k n t k' n' t'))
  else false
theorem vTest_ok (k n : Int) (t : ByteArray) (op : Int) (k' n' : Int) (t' : ByteArray) (add : Int) : CC Tryz.prog 90 [.agg (pval k n t), sint op, .agg (pval k' n' t'), sint add] (fun sv => sv = sbool (vTest k n t op k' n' t' add)) := by
  refine cc_of_pw Tryz.func90 rfl enters90 Tryz.ntmps90 (by simp) (pw_of_pws ?_)
  repeat' (first | with_reducible refine pws_seq ?_ | with_reducible refine pws_skip ?_ | with_reducible refine pws_block ?_ | ((with_reducible refine pws_regk fun K' S hK' hS => ?_); simp [argSlots, *]) | ((with_reducible refine Goes.go hK' ?_); clear hK' hS; clear K' S) | ((with_reducible refine GoesS.go hS ?_); clear hK' hS; clear K' S) | ((with_reducible refine pws_true ?_ ?_); (· simp; done)) | ((with_reducible refine pws_false ?_ ?_); (· simp; done)) | ((with_reducible refine pws_condk (k := ?_) ?_ (fun hb => ?_) (fun hb => ?_)); rotate_left; (· rfl); all_goals (try (simp only [decide_eq_true_eq, decide_eq_false_iff_not, Bool.not_eq_true', Bool.not_eq_false', Decidable.not_not, Bool.not_eq_true, Bool.not_eq_false, Bool.and_eq_true, beq_iff_eq] at hb))) | with_reducible refine pws_ret ?_ | with_reducible refine blk_ret ?_ | with_reducible refine blk_normal ?_ | with_reducible refine pws_nil ?_ | ((with_reducible refine runG_split (fun hb => ?_) (fun hb => ?_)); all_goals ((try (simp only [decide_eq_true_eq, decide_eq_false_iff_not, Bool.not_eq_true', Bool.not_eq_false', Decidable.not_not, Bool.not_eq_true, Bool.not_eq_false, Bool.and_eq_true, beq_iff_eq] at hb)); simp [argSlots, *])) | ((with_reducible refine pwl_callk (c := ?_) (x := ?_) (f := ?_) (svs := ?_) (cs := ?_) (Qr := ?_) true ?_ ?_ ?_ ?_ ?_ ?_ ?_ ?_ ?_); rotate_left 6; (· (simp [argSlots, *]; done)); (· rfl); (· rfl); (· (simp; with_reducible rfl)); (· (simp; with_reducible rfl)); (· first | (simp [bors, bor]; with_reducible rfl) | (simp [bors, bor, *]; with_reducible rfl)); (· rfl); (· ((with_reducible refine vValid_ok _ _ _))); (rintro sv hsv hsc; clear hsc; obtain rfl := hsv; refine ⟨(by first | (intro _; rfl) | (intro h; cases h)), ?_⟩; refine pwl_runk fun K' S hK' hS => ?_; simp [argSlots, *])) | ((with_reducible refine pwl_callk (c := ?_) (x := ?_) (f := ?_) (svs := ?_) (cs := ?_) (Qr := ?_) true ?_ ?_ ?_ ?_ ?_ ?_ ?_ ?_ ?_); rotate_left 6; (· (simp [argSlots, *]; done)); (· rfl); (· rfl); (· (simp; with_reducible rfl)); (· (simp; with_reducible rfl)); (· first | (simp [bors, bor]; with_reducible rfl) | (simp [bors, bor, *]; with_reducible rfl)); (· rfl); (· ((with_reducible refine order_ok _ _))); (rintro sv hsv hsc; clear hsc; obtain rfl := hsv; refine ⟨(by first | (intro _; rfl) | (intro h; cases h)), ?_⟩; refine pwl_runk fun K' S hK' hS => ?_; simp [argSlots, *])) | ((with_reducible refine pwl_callk (c := ?_) (x := ?_) (f := ?_) (svs := ?_) (cs := ?_) (Qr := ?_) true ?_ ?_ ?_ ?_ ?_ ?_ ?_ ?_ ?_); rotate_left 6; (· (simp [argSlots, *]; done)); (· rfl); (· rfl); (· (simp; with_reducible rfl)); (· (simp; with_reducible rfl)); (· first | (simp [bors, bor]; with_reducible rfl) | (simp [bors, bor, *]; with_reducible rfl)); (· rfl); (· ((with_reducible refine vCompare_ok _ _ _ _ _ _))); (rintro sv hsv hsc; clear hsc; obtain rfl := hsv; refine ⟨(by first | (intro _; rfl) | (intro h; cases h)), ?_⟩; refine pwl_runk fun K' S hK' hS => ?_; simp [argSlots, *])) | ((with_reducible refine pwl_callk (c := ?_) (x := ?_) (f := ?_) (svs := ?_) (cs := ?_) (Qr := ?_) false ?_ ?_ ?_ ?_ ?_ ?_ ?_ ?_ ?_); rotate_left 6; (· (simp [argSlots, *]; done)); (· rfl); (· rfl); (· (simp; with_reducible rfl)); (· (simp; with_reducible rfl)); (· first | (simp [bors, bor]; with_reducible rfl) | (simp [bors, bor, *]; with_reducible rfl)); (· rfl); (· ((with_reducible refine comparisons_ok))); (rintro sv hsv hsc; clear hsc; obtain rfl := hsv; refine ⟨(by first | (intro _; rfl) | (intro h; cases h)), ?_⟩; refine pwl_runk fun K' S hK' hS => ?_; simp [argSlots, *])))
  any_goals
    with_reducible refine pws_isloop ?_
    refine pws_loopc (α := { k : Nat // k ≤ 4 }) (fun c k => { n := 62, nx := 0, s := [(49, sint k.1), (47, .pv (.sl 2 comps)), (48, sint 4), (1, sint op), (9, sint c)], h := [], d := [] }) (fun k => 4 - k.1) (fun k => ¬ (1 ≤ op ∧ op ≤ k.1)) ⟨0, by omega⟩ ?_ _
      (ent_sub rfl rfl rfl ⟨rfl, rfl, rfl, rfl, rfl, trivial⟩ trivial (by simp) (by simp) (by simp [slotsBelow, SV.lo]) trivial) ?_
    · show ¬ (1 ≤ op ∧ op ≤ ((0 : Nat) : Int))
      omega
    rintro ⟨k, hk⟩ hok K hK
    simp only at hok
    have hk5 : k = 0 ∨ k = 1 ∨ k = 2 ∨ k = 3 ∨ k = 4 := by omega
    rcases hk5 with rfl | rfl | rfl | rfl | rfl
  repeat' (first | with_reducible refine pws_seq ?_ | with_reducible refine pws_skip ?_ | with_reducible refine pws_block ?_ | ((with_reducible refine pws_regk fun K' S hK' hS => ?_); simp [argSlots, *]) | ((with_reducible refine Goes.go hK' ?_); clear hK' hS; clear K' S) | ((with_reducible refine GoesS.go hS ?_); clear hK' hS; clear K' S) | ((with_reducible refine pws_true ?_ ?_); (· simp; done)) | ((with_reducible refine pws_false ?_ ?_); (· simp; done)) | ((with_reducible refine pws_condk (k := ?_) ?_ (fun hb => ?_) (fun hb => ?_)); rotate_left; (· rfl); all_goals (try (simp only [decide_eq_true_eq, decide_eq_false_iff_not, Bool.not_eq_true', Bool.not_eq_false', Decidable.not_not, Bool.not_eq_true, Bool.not_eq_false, Bool.and_eq_true, beq_iff_eq] at hb))) | with_reducible refine pws_ret ?_ | with_reducible refine blk_ret ?_ | with_reducible refine blk_normal ?_ | with_reducible refine blk_same ?_ | with_reducible refine thenQ_ret ?_ | with_reducible refine thenQ_exit ?_ | with_reducible refine thenQ_normal ?_ | with_reducible refine pws_nil ?_ | with_reducible refine pws_exit ?_ | ((with_reducible refine pwl_unclosc (c := ?_) (t := ?_) (f := ?_) ?_ ?_ ?_ ?_); rotate_left 3; (· rfl); (· rfl); (· rfl); skip) | ((with_reducible refine pwl_callk (c := ?_) (x := ?_) (f := ?_) (svs := ?_) (cs := ?_) (Qr := ?_) true ?_ ?_ ?_ ?_ ?_ ?_ ?_ ?_ ?_); rotate_left 6; (· (simp [argSlots, *]; done)); (· rfl); (· rfl); (· (simp; with_reducible rfl)); (· (simp; with_reducible rfl)); (· first | (simp [bors, bor]; with_reducible rfl) | (simp [bors, bor, *]; with_reducible rfl)); (· rfl); (· ((with_reducible refine c205_ok _))); (rintro sv hsv hsc; clear hsc; obtain rfl := hsv; refine ⟨(by first | (intro _; rfl) | (intro h; cases h)), ?_⟩; refine pwl_runk fun K' S hK' hS => ?_; simp [argSlots, *])) | ((with_reducible refine pwl_callk (c := ?_) (x := ?_) (f := ?_) (svs := ?_) (cs := ?_) (Qr := ?_) true ?_ ?_ ?_ ?_ ?_ ?_ ?_ ?_ ?_); rotate_left 6; (· (simp [argSlots, *]; done)); (· rfl); (· rfl); (· (simp; with_reducible rfl)); (· (simp; with_reducible rfl)); (· first | (simp [bors, bor]; with_reducible rfl) | (simp [bors, bor, *]; with_reducible rfl)); (· rfl); (· ((with_reducible refine c206_ok _))); (rintro sv hsv hsc; clear hsc; obtain rfl := hsv; refine ⟨(by first | (intro _; rfl) | (intro h; cases h)), ?_⟩; refine pwl_runk fun K' S hK' hS => ?_; simp [argSlots, *])) | ((with_reducible refine pwl_callk (c := ?_) (x := ?_) (f := ?_) (svs := ?_) (cs := ?_) (Qr := ?_) true ?_ ?_ ?_ ?_ ?_ ?_ ?_ ?_ ?_); rotate_left 6; (· (simp [argSlots, *]; done)); (· rfl); (· rfl); (· (simp; with_reducible rfl)); (· (simp; with_reducible rfl)); (· first | (simp [bors, bor]; with_reducible rfl) | (simp [bors, bor, *]; with_reducible rfl)); (· rfl); (· ((with_reducible refine c207_ok _))); (rintro sv hsv hsc; clear hsc; obtain rfl := hsv; refine ⟨(by first | (intro _; rfl) | (intro h; cases h)), ?_⟩; refine pwl_runk fun K' S hK' hS => ?_; simp [argSlots, *])) | ((with_reducible refine pwl_callk (c := ?_) (x := ?_) (f := ?_) (svs := ?_) (cs := ?_) (Qr := ?_) true ?_ ?_ ?_ ?_ ?_ ?_ ?_ ?_ ?_); rotate_left 6; (· (simp [argSlots, *]; done)); (· rfl); (· rfl); (· (simp; with_reducible rfl)); (· (simp; with_reducible rfl)); (· first | (simp [bors, bor]; with_reducible rfl) | (simp [bors, bor, *]; with_reducible rfl)); (· rfl); (· ((with_reducible refine c208_ok _))); (rintro sv hsv hsc; clear hsc; obtain rfl := hsv; refine ⟨(by first | (intro _; rfl) | (intro h; cases h)), ?_⟩; refine pwl_runk fun K' S hK' hS => ?_; simp [argSlots, *])))
  any_goals
    first | refine hK _ ⟨1, by omega⟩ (ent_sub rfl rfl rfl ⟨rfl, rfl, rfl, rfl, rfl, trivial⟩ trivial (by simp) (by simp) (by simp [slotsBelow, SV.lo]) trivial) ?_ (by simp) | refine hK _ ⟨2, by omega⟩ (ent_sub rfl rfl rfl ⟨rfl, rfl, rfl, rfl, rfl, trivial⟩ trivial (by simp) (by simp) (by simp [slotsBelow, SV.lo]) trivial) ?_ (by simp) | refine hK _ ⟨3, by omega⟩ (ent_sub rfl rfl rfl ⟨rfl, rfl, rfl, rfl, rfl, trivial⟩ trivial (by simp) (by simp) (by simp [slotsBelow, SV.lo]) trivial) ?_ (by simp) | refine hK _ ⟨4, by omega⟩ (ent_sub rfl rfl rfl ⟨rfl, rfl, rfl, rfl, rfl, trivial⟩ trivial (by simp) (by simp) (by simp [slotsBelow, SV.lo]) trivial) ?_ (by simp)
    simp at hok ⊢
    omega
  all_goals (refine finC_ret (vs := ?_) [] (by first | exact .inr rfl | exact .inl rfl) rfl ?_ ?_ ?_; rotate_left; (· simp [Tryz.results90, resL, resOf]; rfl); (· first | rfl | (simp [wrapRes, cv, SV.const, constL]; done)); (· first | (simp [wrapRes, cv, vTest, opHolds, *]; done) | (simp [wrapRes, cv, vTest, opHolds, *]; grind) | (simp [wrapRes, cv, vTest, opHolds, *]; omega)))
end
section
theorem enters39 : Enters Tryz.prog 39 := enters_mk Tryz.func39 (by kernel_rfl) (by kernel_rfl)
theorem enters34 : Enters Tryz.prog 34 := enters_mk Tryz.func34 (by kernel_rfl) (by kernel_rfl)
theorem enters32 : Enters Tryz.prog 32 := enters_mk Tryz.func32 (by kernel_rfl) (by kernel_rfl)
def lexLt : List Int → List Int → Bool
  | _, [] => false
  | [], _ :: _ => true
  | a :: l, b :: m => if a ≠ b then decide (a < b) else lexLt l m
theorem lexLt_drop {xs ys : List Int} {k : Nat} (h1 : k < xs.length) (h2 : k < ys.length) : lexLt (xs.drop k) (ys.drop k) = if xs[k] ≠ ys[k] then decide (xs[k] < ys[k]) else lexLt (xs.drop (k + 1)) (ys.drop (k + 1)) := by
  rw [List.drop_eq_getElem_cons h1, List.drop_eq_getElem_cons h2]
  rfl
theorem lexLt_end {xs ys : List Int} {k : Nat} (h0 : k ≤ xs.length) (h1 : ¬ (k < xs.length ∧ k < ys.length)) : lexLt (xs.drop k) (ys.drop k) = decide (xs.length - k < ys.length - k) := by
  by_cases h2 : k < ys.length
  · have : ¬ k < xs.length := fun h => h1 ⟨h, h2⟩
    rw [List.drop_of_length_le (by omega : xs.length ≤ k), List.drop_eq_getElem_cons h2]
    simp [lexLt]
    omega
  · rw [List.drop_of_length_le (by omega : ys.length ≤ k)]
    simp [lexLt]
    omega
theorem less_ok (xs ys : List Int) : CC Tryz.prog 39 [.pv (.sl 1 (ints xs)), .pv (.sl 1 (ints ys))] (fun sv => sv = sbool (lexLt xs ys)) := by
  refine cc_of_pw Tryz.func39 rfl enters39 Tryz.ntmps39 (by simp) (pw_of_pws ?_)
  refine pws_ent (Ent.refl _) (pws_len (t := 0) (es := 1) (xs := ints xs) rfl fun hx => ?_)
  simp [maxLen] at hx
  repeat' (first | with_reducible refine pws_seq ?_ | with_reducible refine pws_block ?_ | ((with_reducible refine pws_regk fun K' S hK' hS => ?_); simp [argSlots, *]) | ((with_reducible refine Goes.go hK' ?_); clear hK' hS; clear K' S))
  refine pws_loop (α := { k : Nat // k ≤ xs.length }) (fun k => { n := 41, nx := 0, s := [(5, sint k.1), (0, .pv (.sl 1 (ints xs))), (1, .pv (.sl 1 (ints ys)))], h := [], d := [] }) (fun k => xs.length - k.1) (fun k => k.1 ≤ ys.length ∧ lexLt (xs.drop k.1) (ys.drop k.1) = lexLt xs ys) ⟨0, by omega⟩ (by simp [hx]) (ent_sub rfl rfl rfl (by simp [SubL, *]) (by simp [SubL, *]) (by simp) (by simp) (by simp [slotsBelow, SV.lo, belowL]) (by simp [heapBelow, ABlk.lo, SV.lo, belowL, slotsBelow])) ?_; rintro ⟨k, hk⟩ hok K hK; simp only at hok
  obtain ⟨hk2, hok⟩ := hok
  have hw : k < xs.length → IntKind.i64.wrap ((k : Int) + 1) = (k : Int) + 1 := fun h => wrap64_id (by omega)
  by_cases h1 : k < xs.length
  · by_cases h2 : k < ys.length
    · have hl := lexLt_drop h1 h2
      have hw := hw h1
      by_cases he : xs[k] = ys[k]
      · rw [if_neg (by simpa using he), hok] at hl
        repeat' (first | with_reducible refine pws_seq ?_ | with_reducible refine pws_skip ?_ | with_reducible refine pws_block ?_ | ((with_reducible refine pws_regk fun K' S hK' hS => ?_); simp [argSlots, *]) | ((with_reducible refine Goes.go hK' ?_); clear hK' hS; clear K' S) | ((with_reducible refine pws_true ?_ ?_); (· simp; done)) | ((with_reducible refine pws_false ?_ ?_); (· simp; done)) | with_reducible refine blk_normal ?_ | with_reducible refine thenQ_normal ?_ | with_reducible refine pws_nil ?_ | ((with_reducible refine pws_drawk [] [0, 1, 2, 3, 4, 5, 6, 7, 8] [] ?_ fun K' S hK' hS => ?_); (· decide +kernel); simp [argSlots, *]))
        refine hK _ ⟨k + 1, by omega⟩ (ent_sub rfl rfl rfl (by simp [SubL, *]) (by simp [SubL, *]) (by simp) (by simp) (by simp [slotsBelow, SV.lo, belowL]) (by simp [heapBelow, ABlk.lo, SV.lo, belowL, slotsBelow])) ?_ (by simp; omega)
        exact ⟨h2, hl.symm⟩
      · rw [if_pos he, hok] at hl
        repeat' (first | with_reducible refine pws_seq ?_ | with_reducible refine pws_skip ?_ | with_reducible refine pws_block ?_ | ((with_reducible refine pws_regk fun K' S hK' hS => ?_); simp [argSlots, *]) | ((with_reducible refine Goes.go hK' ?_); clear hK' hS; clear K' S) | ((with_reducible refine pws_true ?_ ?_); (· simp; done)) | with_reducible refine pws_ret ?_ | with_reducible refine blk_ret ?_ | with_reducible refine thenQ_ret ?_ | ((with_reducible refine pws_drawk [] [0, 1, 2, 3, 4, 5, 6, 7, 8] [] ?_ fun K' S hK' hS => ?_); (· decide +kernel); simp [argSlots, *]) | ((with_reducible refine pws_drawk [] [0, 1, 2, 3, 4, 5, 6, 7, 8, 9] [] ?_ fun K' S hK' hS => ?_); (· decide +kernel); simp [argSlots, *]))
        all_goals (refine finC_ret (vs := ?_) [] (by first | exact .inr rfl | exact .inl rfl) rfl ?_ ?_ ?_; rotate_left; (· simp [Tryz.results39, resL, resOf]; rfl); (· first | rfl | (simp [wrapRes, cv, SV.const, constL]; done)); (· first | (simp [wrapRes, cv, *]; done) | (simp [wrapRes, cv, *]; grind) | (simp [wrapRes, cv, *]; omega)))
    · have hl := lexLt_end hk (fun h => h2 h.2)
      rw [hok] at hl
      repeat' (first | with_reducible refine pws_seq ?_ | ((with_reducible refine pws_regk fun K' S hK' hS => ?_); simp [argSlots, *]) | ((with_reducible refine Goes.go hK' ?_); clear hK' hS; clear K' S) | ((with_reducible refine pws_false ?_ ?_); (· simp; done)) | with_reducible refine pws_ret ?_ | with_reducible refine blk_same ?_ | with_reducible refine thenQ_exit ?_ | with_reducible refine pws_exit ?_)
      all_goals (refine finC_ret (vs := ?_) [] (by first | exact .inr rfl | exact .inl rfl) rfl ?_ ?_ ?_; rotate_left; (· simp [Tryz.results39, resL, resOf]; rfl); (· first | rfl | (simp [wrapRes, cv, SV.const, constL]; done)); (· first | (simp [wrapRes, cv, *]; done) | (simp [wrapRes, cv, *]; grind) | (simp [wrapRes, cv, *]; omega)))
  · have hl := lexLt_end (ys := ys) hk (fun h => h1 h.1)
    rw [hok] at hl
    repeat' (first | with_reducible refine pws_seq ?_ | ((with_reducible refine pws_regk fun K' S hK' hS => ?_); simp [argSlots, *]) | ((with_reducible refine Goes.go hK' ?_); clear hK' hS; clear K' S) | ((with_reducible refine pws_false ?_ ?_); (· simp; done)) | with_reducible refine pws_ret ?_ | with_reducible refine blk_same ?_ | with_reducible refine thenQ_exit ?_ | with_reducible refine pws_exit ?_)
    all_goals (refine finC_ret (vs := ?_) [] (by first | exact .inr rfl | exact .inl rfl) rfl ?_ ?_ ?_; rotate_left; (· simp [Tryz.results39, resL, resOf]; rfl); (· first | rfl | (simp [wrapRes, cv, SV.const, constL]; done)); (· first | (simp [wrapRes, cv, *]; done) | (simp [wrapRes, cv, *]; grind) | (simp [wrapRes, cv, *]; omega)))
theorem all_drop {α : Type} (p : α → Bool) {l : List α} {k : Nat} (h : k < l.length) : (l.drop k).all p = (p l[k] && (l.drop (k + 1)).all p) := by rw [List.drop_eq_getElem_cons h]; rfl
theorem any_drop {α : Type} (p : α → Bool) {l : List α} {k : Nat} (h : k < l.length) : (l.drop k).any p = (p l[k] || (l.drop (k + 1)).any p) := by rw [List.drop_eq_getElem_cons h]; rfl
theorem all_end {α : Type} (p : α → Bool) {l : List α} {k : Nat} (h : ¬ k < l.length) : (l.drop k).all p = true := by rw [List.drop_of_length_le (by omega)]; rfl
abbrev psets (l : List (List Int)) : List (List PV) := l.map fun xs => [.sl 1 (ints xs)]
def isIn (l : List Int) (n : Int) : Bool := l.any fun x => decide (x = n)
def hasAll (a b : List Int) : Bool := b.all (isIn a)
theorem ints_ok (xs ys : List Int) : CC Tryz.prog 34 [.pv (.sl 1 (ints xs)), .pv (.sl 1 (ints ys))] (fun sv => sv = sbool (!lexLt xs ys && !lexLt ys xs)) := by
  refine cc_of_pw Tryz.func34 rfl enters34 Tryz.ntmps34 (by simp) (pw_of_pws ?_)
  repeat' (first | with_reducible refine pws_seq ?_ | ((with_reducible refine pws_regk fun K' S hK' hS => ?_); simp [argSlots, *]) | ((with_reducible refine Goes.go hK' ?_); clear hK' hS; clear K' S) | ((with_reducible refine GoesS.go hS ?_); clear hK' hS; clear K' S) | with_reducible refine pws_ret ?_ | ((with_reducible refine runG_split (fun hb => ?_) (fun hb => ?_)); all_goals ((try (simp only [decide_eq_true_eq, decide_eq_false_iff_not, Bool.not_eq_true', Bool.not_eq_false', Decidable.not_not, Bool.not_eq_true, Bool.not_eq_false, Bool.and_eq_true, beq_iff_eq] at hb)); simp [argSlots, *])) | ((with_reducible refine pwl_callk (c := ?_) (x := ?_) (f := ?_) (svs := ?_) (cs := ?_) (Qr := ?_) true ?_ ?_ ?_ ?_ ?_ ?_ ?_ ?_ ?_); rotate_left 6; (· (simp [argSlots, *]; done)); (· rfl); (· rfl); (· (simp; with_reducible rfl)); (· (simp; with_reducible rfl)); (· first | (simp [bors, bor]; with_reducible rfl) | (simp [bors, bor, *]; with_reducible rfl)); (· rfl); (· ((with_reducible refine less_ok _ _))); (rintro sv hsv hsc; clear hsc; obtain rfl := hsv; refine ⟨(by first | (intro _; rfl) | (intro h; cases h)), ?_⟩; refine pwl_runk fun K' S hK' hS => ?_; simp [argSlots, *])))
  all_goals (refine finC_ret (vs := ?_) [] (by first | exact .inr rfl | exact .inl rfl) rfl ?_ ?_ ?_; rotate_left; (· simp [Tryz.results34, resL, resOf]; rfl); (· first | rfl | (simp [wrapRes, cv, SV.const, constL]; done)); (· first | (simp [wrapRes, cv, *]; done) | (simp [wrapRes, cv, *]; grind) | (simp [wrapRes, cv, *]; omega)))
end
end Go.Proofs.T1
/- The program's data. -/
namespace Go.Proofs.T1
open Go.Vc
structure V where
  k : Int
  n : Int
  t : ByteArray
abbrev V.c (v : V) : List PV := [pint v.k, pint v.n, .lit (.string v.t)]
abbrev V.z : V := ⟨0, 0, ⟨#[]⟩⟩
structure Sd where
  var : Int
  col : Int
  v : V
structure Tst where
  l : Sd
  op : Int
  r : Sd
  add : Int
abbrev Sd.c (s : Sd) : List PV := [pint s.var, pint s.col, pint s.v.k, pint s.v.n, .lit (.string s.v.t)]
abbrev Tst.c (t : Tst) : List PV := [pint t.l.var, pint t.l.col, pint t.l.v.k, pint t.l.v.n, .lit (.string t.l.v.t), pint t.op, pint t.r.var, pint t.r.col, pint t.r.v.k, pint t.r.v.n, .lit (.string t.r.v.t), pint t.add]
structure Fx where
  col : Int
  v : V
abbrev Fx.c (f : Fx) : List PV := [pint f.col, pint f.v.k, pint f.v.n, .lit (.string f.v.t)]
structure Rl where
  kind : Int
  name : ByteArray
  table : Int
  cols : List Int
  col : Int
  fixed : List Fx
  other : Int
  otherCol : Int
  tables : List Int
  tests : List Tst
abbrev Rl.c (r : Rl) : List PV := [pint r.kind, .lit (.string r.name), pint r.table, .sl 1 (ints r.cols), pint r.col, .sl 4 (r.fixed.map Fx.c), pint r.other, pint r.otherCol, .sl 1 (ints r.tables), .sl 12 (r.tests.map Tst.c)]
structure Fc where
  table : Int
  entity : Int
  variant : Int
  row : List V
  cost : Int
  fro : List Int
abbrev Fc.c (f : Fc) : List PV := [pint f.table, pint f.entity, pint f.variant, .sl 3 (f.row.map V.c), pint f.cost, .sl 1 (ints f.fro)]
def colTest (c op : Int) : Tst := ⟨⟨0, c, V.z⟩, op, ⟨1, c, V.z⟩, 0⟩
def fixTest (f : Fx) (v : Int) : Tst := ⟨⟨v, f.col, V.z⟩, 1, ⟨-1, 0, f.v⟩, 0⟩
def lowTests (r : Rl) : List Tst := (if r.kind = 2 then r.fixed.flatMap fun f => [fixTest f 0, fixTest f 1] else []) ++ r.cols.map (colTest · 1) ++ (if r.kind = 2 then [colTest r.col 2] else [])
def lower (r : Rl) : List Rl := if r.kind = 4 then [r] else if r.kind ≠ 1 ∧ r.kind ≠ 2 then [] else [⟨4, r.name, 0, [], 0, [], 0, 0, [r.table, r.table], lowTests r⟩]
end Go.Proofs.T1
namespace Go.Proofs.T1
open Go.Vc
open Tryz
set_option linter.unusedSimpArgs false
set_option linter.unusedVariables false
set_option maxHeartbeats 4000000
set_option maxRecDepth 20000
attribute [local simp] runD_nil runD_cons runDO runDG runDV stabs stabO stabG runK_nil runK_cons runG_t runG_f runS_some runS_none gate dstOf step2 step1 vq vop vlook mput mfind isKeyB keq fin1 hbox halloc hstore hbuild hbuildSlice happend hmake vslice bound vbuild partsOf elemsOf inOrder topvs toPV svCells splice srcOf isNil St.ev St.evs St.fits St.put St.new St.upd St.frzs St.frz lk hset litOf vbuiltin vlen vbin vindex vfield vload rdc pvs capsOf Value.oneCell'
attribute [local simp] tsz3 tagg3 tbytes3 tint3 tzero3 tzero1_3 tsz4 tagg4 tbytes4 tbool4 tzero4 tzero1_4 tsz5 tagg5 tbytes5 tint5 tzero5 tzero1_5 tsz9 tagg9 tbytes9 tstr9 tzero9 tzero1_9 tsz22 tagg22 tel22 tbytes22 tzero22 tzero1_22 tsz23 tagg23 tel23 tbytes23 tzero23 tzero1_23 tsz24 tagg24 tel24 tbytes24 tzero24 tzero1_24 tsz25 tagg25 tbytes25 tzero25 tzero1_25 tsz29 tagg29 tel29 tbytes29 tzero29 tzero1_29 tsz30 tagg30 tel30 tbytes30 tzero30 tzero1_30 tsz32 tagg32 tbytes32 tzero32 foff32_0 foff32_1 foff32_2 foff32_3 foff32_4 foff32_5 foff32_6 foff32_7 foff32_8 foff32_9 tsz33 tagg33 tel33 tbytes33 tzero33 tzero1_33 tsz34 tagg34 tbytes34 tint34 tzero34 tzero1_34 tsz38 tagg38 tbytes38 tzero38 foff38_0 foff38_1 foff38_2 tsz47 tagg47 tel47 tbytes47 tzero47 tzero1_47 tsz52 tagg52 tel52 tbytes52 tzero52 tzero1_52 tsz54 tagg54 tbytes54 tzero54 foff54_0 foff54_1 foff54_2 foff54_3 foff54_4 foff54_5 tsz79 tagg79 tbytes79 tzero79 foff79_0 foff79_1 foff79_2 tsz117 tagg117 tbytes117 tzero117 foff117_0 foff117_1 foff117_2 tsz119 tagg119 tbytes119 tzero119 foff119_0 foff119_1 tsz121 tagg121 tbytes121 tzero121 foff121_0 foff121_1 foff121_2 foff121_3 tsz129 tagg129 tbytes129 tzero129 tzero1_129 tsz130 tagg130 tbytes130 tzero130 tzero1_130 tsz132 tagg132 tbytes132 tzero132 tzero1_132 tsz206 tagg206 tbytes206 tzero206 tzero1_206 mtype206 tsz208 tagg208 tbytes208 tsz217 tagg217 tel217 tbytes217 tzero217 tzero1_217 tsz220 tagg220 tbytes220 tzero220 foff220_0 foff220_1 tsz235 tagg235 tel235 tbytes235 tzero235 tzero1_235 tsz256 tagg256 tbytes256 tzero256 tzero1_256 mtype256 tsz351 tagg351 tbytes351 tzero351 tsz2 tagg2 tbytes2 tint2 tzero2 tzero1_2 tsz291 tagg291 tbytes291 tint291 tzero291 tzero1_291 sized32 places32_0 places32_1 places32_2 places32_3 places32_4 places32_5 places32_6 places32_7 places32_8 places32_9 sized38 places38_0 places38_1 places38_2 sized54 places54_0 places54_1 places54_2 places54_3 places54_4 places54_5 sized79 places79_0 places79_1 places79_2 sized117 places117_0 places117_1 places117_2 sized119 places119_0 places119_1 sized121 places121_0 places121_1 places121_2 places121_3 sized220 places220_0 places220_1
section
attribute [local simp] V.c V.z Sd.c Tst.c Fx.c Rl.c Fc.c
theorem take_map_len {α β : Type} (f : α → β) (l : List α) : List.take l.length (l.map f) = l.map f := by rw [← List.map_take, List.take_length]
theorem fewB (n : Nat) (h : n ≤ 100) : n * 112 ≤ 140737488355328 := by omega
/-- The blocks while the tests grow. -/
abbrev lowH (r : Rl) (T : List Tst) : List (Nat × ABlk) :=
  [(3, .arr 121 12 T.length false (T.map Tst.c)), (2, .box [sint 4, sstr r.name, sint 0, .pv (.lit (.slice none 0 0)), sint 0, .pv (.lit (.slice none 0 0)), sint 0, sint 0, .pv (.sl 1 (ints [r.table, r.table])), .loc 12 3 T.length 0 T.length]), (0, .box (r.c.map .pv))]
def fixT (r : Rl) (k : Nat) : List Tst := (r.fixed.take k).flatMap fun f => [fixTest f 0, fixTest f 1]
theorem fixT_succ (r : Rl) (k : Nat) (h : k < r.fixed.length) : fixT r (k + 1) = fixT r k ++ [fixTest r.fixed[k] 0, fixTest r.fixed[k] 1] := by
  unfold fixT
  rw [List.take_succ_eq_append_getElem h, List.flatMap_append]
  rfl
theorem fixT_len (r : Rl) (k : Nat) : (fixT r k).length ≤ 2 * k := by
  induction k with
  | zero => simp [fixT]
  | succ k ih =>
    by_cases h : k < r.fixed.length
    · rw [fixT_succ r k h]
      simp
      omega
    · have : fixT r (k + 1) = fixT r k := by
        unfold fixT
        rw [List.take_of_length_le (by omega), List.take_of_length_le (by omega)]
      rw [this]
      omega
theorem fixT_all (r : Rl) : fixT r r.fixed.length = r.fixed.flatMap fun f => [fixTest f 0, fixTest f 1] := by
  unfold fixT
  rw [List.take_length]
def colT (r : Rl) (k : Nat) : List Tst := (r.cols.take k).map (colTest · 1)
theorem colT_succ (r : Rl) (k : Nat) (h : k < r.cols.length) : colT r (k + 1) = colT r k ++ [colTest r.cols[k] 1] := by
  unfold colT
  rw [List.take_succ_eq_append_getElem h, List.map_append]
  rfl
theorem colT_len (r : Rl) (k : Nat) : (colT r k).length ≤ r.cols.length := by
  unfold colT
  simp
  omega
theorem colT_all (r : Rl) : colT r r.cols.length = r.cols.map (colTest · 1) := by
  unfold colT
  rw [List.take_length]
theorem take_map_len1 {α β : Type} (f : α → β) (l : List α) (x : β) : List.take (l.length + 1) (l.map f ++ [x]) = l.map f ++ [x] := List.take_of_length_le (by simp)
theorem wrap1 : IntKind.i64.wrap 1 = 1 := by decide
theorem wrap2 : IntKind.i64.wrap 2 = 2 := by decide
theorem wrap3 : IntKind.i64.wrap 3 = 3 := by decide
attribute [local simp] wrap1 wrap2 wrap3 take_map_len take_map_len1
end
section
attribute [local simp] V.c V.z Sd.c Tst.c Fx.c Rl.c Fc.c
def excl (a b : Fc) : Bool := decide (a.entity = b.entity) && (decide (a.variant ≠ -1) || decide (b.variant ≠ -1))
def setsEq (a b : List (List Int)) : Bool := decide (a.length = b.length) && (a.zip b).all fun q => !lexLt q.1 q.2 && !lexLt q.2 q.1
theorem sets_ok (a b : List (List Int)) : CC Tryz.prog 32 [.pv (.sl 1 (psets a)), .pv (.sl 1 (psets b))] (fun sv => sv = sbool (setsEq a b)) := by
  refine cc_of_pw Tryz.func32 rfl enters32 Tryz.ntmps32 (by simp) (pw_of_pws ?_)
  refine pws_ent (Ent.refl _) (pws_len (t := 0) (es := 1) (xs := psets a) rfl fun hx => ?_)
  simp [maxLen] at hx
  by_cases hab : a.length = b.length
  · repeat' (first | with_reducible refine pws_seq ?_ | with_reducible refine pws_skip ?_ | with_reducible refine pws_block ?_ | ((with_reducible refine pws_regk fun K' S hK' hS => ?_); simp [argSlots, *]) | ((with_reducible refine Goes.go hK' ?_); clear hK' hS; clear K' S) | ((with_reducible refine pws_false ?_ ?_); (· simp; done)))
    refine pws_loop (α := { k : Nat // k ≤ a.length }) (fun k => { n := 37, nx := 0, s := [(5, sint k.1), (0, .pv (.sl 1 (psets a))), (1, .pv (.sl 1 (psets b)))], h := [], d := [] }) (fun k => a.length - k.1) (fun k => ((a.zip b).drop k.1).all (fun q => !lexLt q.1 q.2 && !lexLt q.2 q.1) = setsEq a b) ⟨0, by omega⟩ (by simp [setsEq, hab]) (ent_sub rfl rfl rfl (by simp [SubL, *]) (by simp [SubL, *]) (by simp) (by simp) (by simp [slotsBelow, SV.lo, belowL]) (by simp [heapBelow, ABlk.lo, SV.lo, belowL, slotsBelow])) ?_; rintro ⟨k, hk⟩ hok K hK; simp only at hok
    by_cases h1 : k < a.length
    · have hw := wrap64_id (n := (k : Int) + 1) (by omega)
      have hb : k < b.length := by omega
      have hl := all_drop (fun q : List Int × List Int => !lexLt q.1 q.2 && !lexLt q.2 q.1) (l := a.zip b) (k := k) (by simp; omega)
      rw [hok] at hl
      simp only [List.getElem_zip] at hl
      by_cases e1 : lexLt a[k] b[k] = true
      · repeat' (first | with_reducible refine pws_seq ?_ | with_reducible refine pws_skip ?_ | with_reducible refine pws_block ?_ | ((with_reducible refine pws_regk fun K' S hK' hS => ?_); simp [argSlots, *]) | ((with_reducible refine Goes.go hK' ?_); clear hK' hS; clear K' S) | ((with_reducible refine pws_true ?_ ?_); (· simp; done)) | with_reducible refine pws_ret ?_ | with_reducible refine blk_ret ?_ | with_reducible refine thenQ_ret ?_ | ((with_reducible refine pws_drawk [8, 18] [0, 1, 2, 3, 4, 5, 6, 7, 8, 9, 10, 11, 12, 13, 14, 15, 16, 17, 18, 19] [] ?_ fun K' S hK' hS => ?_); (· decide +kernel); simp [argSlots, *]) | ((with_reducible refine GoesD.go hS ?_); clear hK' hS; clear K' S) | ((with_reducible refine pwd_callk (eff := [8, 18]) (i := 8) (c := [7, 6, 5, 4, 3, 2, 1, 0]) (c' := []) (o := ?_) (cl := ?_) (x := ?_) (f := ?_) (svs := ?_) (cs := ?_) (Qr := ?_) true ?_ ?_ ?_ ?_ ?_ ?_ ?_ ?_ ?_ ?_ ?_ ?_ ?_); rotate_left 7; (· rfl); (· rfl); (· (simp [argSlots, *]; done)); (· (simp [argSlots, *]; done)); (· decide +kernel); (· rfl); (· rfl); (· (simp; with_reducible rfl)); (· (simp; with_reducible rfl)); (· first | (simp [bors, bor]; with_reducible rfl) | (simp [bors, bor, *]; with_reducible rfl)); (· rfl); (· ((with_reducible refine less_ok _ _))); (rintro sv hsv hsc; clear hsc; obtain rfl := hsv; refine ⟨(by first | (intro _; rfl) | (intro h; cases h)), ?_⟩; refine pwd_runk fun K' S hK' hS => ?_; simp [argSlots, *])) | ((with_reducible refine pwd_off (eff := [8, 18]) (i := 18) (c := [17, 16, 15, 14, 13, 12, 11, 10, 9]) (c' := []) (o := ?_) ?_ ?_ ?_ ?_ ?_ ?_ ?_); rotate_left 1; (· rfl); (· rfl); (· (simp [argSlots, *]; done)); (· (simp [argSlots, *]; done)); (· rfl); (· decide +kernel); refine pwd_runk fun K' S hK' hS => ?_; simp [argSlots, *]))
        all_goals (refine finC_ret (vs := ?_) [] (by first | exact .inr rfl | exact .inl rfl) rfl ?_ ?_ ?_; rotate_left; (· simp [Tryz.results32, resL, resOf]; rfl); (· first | rfl | (simp [wrapRes, cv, SV.const, constL]; done)); (· first | (simp [wrapRes, cv, *]; done) | (simp [wrapRes, cv, *]; grind) | (simp [wrapRes, cv, *]; omega)))
      · by_cases e2 : lexLt b[k] a[k] = true
        · repeat' (first | with_reducible refine pws_seq ?_ | with_reducible refine pws_skip ?_ | with_reducible refine pws_block ?_ | ((with_reducible refine pws_regk fun K' S hK' hS => ?_); simp [argSlots, *]) | ((with_reducible refine Goes.go hK' ?_); clear hK' hS; clear K' S) | ((with_reducible refine pws_true ?_ ?_); (· simp; done)) | with_reducible refine pws_ret ?_ | with_reducible refine blk_ret ?_ | with_reducible refine thenQ_ret ?_ | ((with_reducible refine pws_drawk [8, 18] [0, 1, 2, 3, 4, 5, 6, 7, 8, 9, 10, 11, 12, 13, 14, 15, 16, 17, 18, 19] [] ?_ fun K' S hK' hS => ?_); (· decide +kernel); simp [argSlots, *]) | ((with_reducible refine GoesD.go hS ?_); clear hK' hS; clear K' S) | ((with_reducible refine pwd_callk (eff := [8, 18]) (i := 8) (c := [7, 6, 5, 4, 3, 2, 1, 0]) (c' := []) (o := ?_) (cl := ?_) (x := ?_) (f := ?_) (svs := ?_) (cs := ?_) (Qr := ?_) true ?_ ?_ ?_ ?_ ?_ ?_ ?_ ?_ ?_ ?_ ?_ ?_ ?_); rotate_left 7; (· rfl); (· rfl); (· (simp [argSlots, *]; done)); (· (simp [argSlots, *]; done)); (· decide +kernel); (· rfl); (· rfl); (· (simp; with_reducible rfl)); (· (simp; with_reducible rfl)); (· first | (simp [bors, bor]; with_reducible rfl) | (simp [bors, bor, *]; with_reducible rfl)); (· rfl); (· ((with_reducible refine less_ok _ _))); (rintro sv hsv hsc; clear hsc; obtain rfl := hsv; refine ⟨(by first | (intro _; rfl) | (intro h; cases h)), ?_⟩; refine pwd_runk fun K' S hK' hS => ?_; simp [argSlots, *])) | ((with_reducible refine pwd_callk (eff := [8, 18]) (i := 18) (c := [17, 16, 15, 14, 13, 12, 11, 10, 9]) (c' := []) (o := ?_) (cl := ?_) (x := ?_) (f := ?_) (svs := ?_) (cs := ?_) (Qr := ?_) true ?_ ?_ ?_ ?_ ?_ ?_ ?_ ?_ ?_ ?_ ?_ ?_ ?_); rotate_left 7; (· rfl); (· rfl); (· (simp [argSlots, *]; done)); (· (simp [argSlots, *]; done)); (· decide +kernel); (· rfl); (· rfl); (· (simp; with_reducible rfl)); (· (simp; with_reducible rfl)); (· first | (simp [bors, bor]; with_reducible rfl) | (simp [bors, bor, *]; with_reducible rfl)); (· rfl); (· ((with_reducible refine less_ok _ _))); (rintro sv hsv hsc; clear hsc; obtain rfl := hsv; refine ⟨(by first | (intro _; rfl) | (intro h; cases h)), ?_⟩; refine pwd_runk fun K' S hK' hS => ?_; simp [argSlots, *])))
          all_goals (refine finC_ret (vs := ?_) [] (by first | exact .inr rfl | exact .inl rfl) rfl ?_ ?_ ?_; rotate_left; (· simp [Tryz.results32, resL, resOf]; rfl); (· first | rfl | (simp [wrapRes, cv, SV.const, constL]; done)); (· first | (simp [wrapRes, cv, *]; done) | (simp [wrapRes, cv, *]; grind) | (simp [wrapRes, cv, *]; omega)))
        · repeat' (first | with_reducible refine pws_seq ?_ | with_reducible refine pws_skip ?_ | with_reducible refine pws_block ?_ | ((with_reducible refine pws_regk fun K' S hK' hS => ?_); simp [argSlots, *]) | ((with_reducible refine Goes.go hK' ?_); clear hK' hS; clear K' S) | ((with_reducible refine pws_true ?_ ?_); (· simp; done)) | ((with_reducible refine pws_false ?_ ?_); (· simp; done)) | with_reducible refine blk_normal ?_ | with_reducible refine thenQ_normal ?_ | with_reducible refine pws_nil ?_ | ((with_reducible refine pws_drawk [8, 18] [0, 1, 2, 3, 4, 5, 6, 7, 8, 9, 10, 11, 12, 13, 14, 15, 16, 17, 18, 19] [] ?_ fun K' S hK' hS => ?_); (· decide +kernel); simp [argSlots, *]) | ((with_reducible refine GoesD.go hS ?_); clear hK' hS; clear K' S) | ((with_reducible refine pwd_callk (eff := [8, 18]) (i := 8) (c := [7, 6, 5, 4, 3, 2, 1, 0]) (c' := []) (o := ?_) (cl := ?_) (x := ?_) (f := ?_) (svs := ?_) (cs := ?_) (Qr := ?_) true ?_ ?_ ?_ ?_ ?_ ?_ ?_ ?_ ?_ ?_ ?_ ?_ ?_); rotate_left 7; (· rfl); (· rfl); (· (simp [argSlots, *]; done)); (· (simp [argSlots, *]; done)); (· decide +kernel); (· rfl); (· rfl); (· (simp; with_reducible rfl)); (· (simp; with_reducible rfl)); (· first | (simp [bors, bor]; with_reducible rfl) | (simp [bors, bor, *]; with_reducible rfl)); (· rfl); (· ((with_reducible refine less_ok _ _))); (rintro sv hsv hsc; clear hsc; obtain rfl := hsv; refine ⟨(by first | (intro _; rfl) | (intro h; cases h)), ?_⟩; refine pwd_runk fun K' S hK' hS => ?_; simp [argSlots, *])) | ((with_reducible refine pwd_callk (eff := [8, 18]) (i := 18) (c := [17, 16, 15, 14, 13, 12, 11, 10, 9]) (c' := []) (o := ?_) (cl := ?_) (x := ?_) (f := ?_) (svs := ?_) (cs := ?_) (Qr := ?_) true ?_ ?_ ?_ ?_ ?_ ?_ ?_ ?_ ?_ ?_ ?_ ?_ ?_); rotate_left 7; (· rfl); (· rfl); (· (simp [argSlots, *]; done)); (· (simp [argSlots, *]; done)); (· decide +kernel); (· rfl); (· rfl); (· (simp; with_reducible rfl)); (· (simp; with_reducible rfl)); (· first | (simp [bors, bor]; with_reducible rfl) | (simp [bors, bor, *]; with_reducible rfl)); (· rfl); (· ((with_reducible refine less_ok _ _))); (rintro sv hsv hsc; clear hsc; obtain rfl := hsv; refine ⟨(by first | (intro _; rfl) | (intro h; cases h)), ?_⟩; refine pwd_runk fun K' S hK' hS => ?_; simp [argSlots, *])))
          refine hK _ ⟨k + 1, by omega⟩ (ent_sub rfl rfl rfl (by simp [SubL, *]) (by simp [SubL, *]) (by simp) (by simp) (by simp [slotsBelow, SV.lo, belowL]) (by simp [heapBelow, ABlk.lo, SV.lo, belowL, slotsBelow])) ?_ (by simp; omega)
          rw [hl]
          simp [e1, e2]
    · have hl := all_end (fun q : List Int × List Int => !lexLt q.1 q.2 && !lexLt q.2 q.1) (l := a.zip b) (k := k) (by simp; omega)
      rw [hok] at hl
      have h2 : ¬ k < b.length := by omega
      repeat' (first | with_reducible refine pws_seq ?_ | ((with_reducible refine pws_regk fun K' S hK' hS => ?_); simp [argSlots, *]) | ((with_reducible refine Goes.go hK' ?_); clear hK' hS; clear K' S) | ((with_reducible refine pws_false ?_ ?_); (· simp; done)) | with_reducible refine pws_ret ?_ | with_reducible refine blk_same ?_ | with_reducible refine thenQ_exit ?_ | with_reducible refine pws_exit ?_)
      all_goals (refine finC_ret (vs := ?_) [] (by first | exact .inr rfl | exact .inl rfl) rfl ?_ ?_ ?_; rotate_left; (· simp [Tryz.results32, resL, resOf]; rfl); (· first | rfl | (simp [wrapRes, cv, SV.const, constL]; done)); (· first | (simp [wrapRes, cv, *]; done) | (simp [wrapRes, cv, *]; grind) | (simp [wrapRes, cv, *]; omega)))
  · have hab2 : ¬ (a.length : Int) = b.length := by omega
    repeat' (first | with_reducible refine pws_seq ?_ | ((with_reducible refine pws_regk fun K' S hK' hS => ?_); simp [argSlots, *]) | ((with_reducible refine Goes.go hK' ?_); clear hK' hS; clear K' S) | ((with_reducible refine pws_true ?_ ?_); (· simp; done)) | with_reducible refine pws_ret ?_)
    all_goals (refine finC_ret (vs := ?_) [] (by first | exact .inr rfl | exact .inl rfl) rfl ?_ ?_ ?_; rotate_left; (· simp [Tryz.results32, resL, resOf]; rfl); (· first | rfl | (simp [wrapRes, cv, SV.const, constL]; done)); (· first | (simp [wrapRes, cv, setsEq, *]; done) | (simp [wrapRes, cv, setsEq, *]; grind) | (simp [wrapRes, cv, setsEq, *]; omega)))
end
end Go.Proofs.T1
/- Plain laws, part a: sets of numbers, their order, and what a denial says of facts. -/
namespace Go.Proofs.T1
open Go.Vc
/-! ### Order of lists -/
theorem lexLt_irrefl : ∀ l : List Int, lexLt l l = false
  | [] => rfl
  | a :: l => by simp [lexLt, lexLt_irrefl l]
theorem lexLt_asymm : ∀ l m : List Int, lexLt l m = true → lexLt m l = false
  | [], [], h => by simp [lexLt] at h
  | [], b :: m, h => by simp [lexLt]
  | a :: l, [], h => by simp [lexLt] at h
  | a :: l, b :: m, h => by
    by_cases e : a = b
    · subst e
      simp [lexLt] at h ⊢
      exact lexLt_asymm l m h
    · have e' : ¬ b = a := fun x => e x.symm
      simp [lexLt, e, e'] at h ⊢
      omega
theorem lexLt_tri : ∀ l m : List Int, lexLt l m = false → lexLt m l = false → l = m
  | [], [], _, _ => rfl
  | [], b :: m, h, _ => by simp [lexLt] at h
  | a :: l, [], _, h => by simp [lexLt] at h
  | a :: l, b :: m, h, h' => by
    by_cases e : a = b
    · subst e
      simp [lexLt] at h h'
      rw [lexLt_tri l m h h']
    · have e' : ¬ b = a := fun x => e x.symm
      simp [lexLt, e, e'] at h h'
      omega
theorem lexLt_trans : ∀ l m k : List Int, lexLt l m = true → lexLt m k = true → lexLt l k = true
  | [], [], _, h, _ => by simp [lexLt] at h
  | [], b :: m, [], _, h => by simp [lexLt] at h
  | [], b :: m, c :: k, _, _ => by simp [lexLt]
  | a :: l, [], _, h, _ => by simp [lexLt] at h
  | a :: l, b :: m, [], _, h => by simp [lexLt] at h
  | a :: l, b :: m, c :: k, h, h' => by
    simp only [lexLt] at h h' ⊢
    by_cases e1 : a = b
    · subst e1
      by_cases e2 : a = c
      · subst e2
        simp at h h' ⊢
        exact lexLt_trans l m k h h'
      · simp [e2] at h h' ⊢
        exact h'
    · by_cases e2 : b = c
      · subst e2
        simp [e1] at h h' ⊢
        exact h
      · simp [e1, e2] at h h'
        have : ¬ a = c := by omega
        simp [this]
        omega
abbrev LSorted (l : List (List Int)) : Prop := l.Pairwise fun a b => lexLt a b = true
/-- Strictly ordered lists with the same members are the same. -/
theorem lsorted_ext : ∀ {l m : List (List Int)}, LSorted l → LSorted m → (∀ s, s ∈ l ↔ s ∈ m) → l = m
  | [], [], _, _, _ => rfl
  | [], b :: m, _, _, h => by simpa using (h b).2 (by simp)
  | a :: l, [], _, _, h => by simpa using (h a).1 (by simp)
  | a :: l, b :: m, hl, hm, h => by
    obtain ⟨hl1, hl2⟩ := List.pairwise_cons.1 hl
    obtain ⟨hm1, hm2⟩ := List.pairwise_cons.1 hm
    have hab : a = b := by
      have h1 := (h a).1 (by simp)
      have h2 := (h b).2 (by simp)
      rcases List.mem_cons.1 h1 with e | e
      · exact e
      · rcases List.mem_cons.1 h2 with e' | e'
        · exact e'.symm
        · have := lexLt_asymm _ _ (hm1 a e)
          rw [hl1 b e'] at this
          cases this
    subst hab
    rw [lsorted_ext hl2 hm2 fun s => ?_]
    constructor
    · intro hs
      rcases List.mem_cons.1 ((h s).1 (List.mem_cons_of_mem _ hs)) with e | e
      · subst e
        have := hl1 _ hs
        rw [lexLt_irrefl] at this
        cases this
      · exact e
    · intro hs
      rcases List.mem_cons.1 ((h s).2 (List.mem_cons_of_mem _ hs)) with e | e
      · subst e
        have := hm1 _ hs
        rw [lexLt_irrefl] at this
        cases this
      · exact e
/-! ### Sets -/
def SetP (l : List Int) (n : Int) : Prop := ∀ (i : Nat) (h : i < l.length), 0 ≤ l[i] ∧ l[i] < n ∧ (∀ h0 : 0 < i, l[i - 1] < l[i])
abbrev Inc (l : List Int) : Prop := l.Pairwise (· < ·)
theorem setP_iff {l : List Int} {n : Int} : SetP l n ↔ Inc l ∧ ∀ x ∈ l, 0 ≤ x ∧ x < n := by
  constructor
  · intro h
    refine ⟨?_, fun x hx => ?_⟩
    · refine List.pairwise_iff_getElem.2 ?_
      intro i j hi hj hij
      induction j with
      | zero => omega
      | succ j ih =>
        have h1 := (h (j + 1) hj).2.2 (by omega)
        simp only [Nat.add_sub_cancel] at h1
        by_cases e : i = j
        · subst e; exact h1
        · have := ih (by omega) (by omega)
          omega
    · obtain ⟨i, hi, rfl⟩ := List.mem_iff_getElem.1 hx
      exact ⟨(h i hi).1, (h i hi).2.1⟩
  · rintro ⟨h1, h2⟩ i hi
    have := h2 l[i] (List.getElem_mem hi)
    refine ⟨this.1, this.2, fun h0 => ?_⟩
    exact (List.pairwise_iff_getElem.1 h1) (i - 1) i (by omega) hi (by omega)
theorem isIn_iff {l : List Int} {x : Int} : isIn l x = true ↔ x ∈ l := by
  unfold isIn
  rw [List.any_eq_true]
  constructor
  · rintro ⟨y, hy, h⟩
    have : y = x := by simpa using h
    exact this ▸ hy
  · exact fun h => ⟨x, h, by simp⟩
/-- Increasing lists with the same members are the same. -/
theorem inc_ext : ∀ {l m : List Int}, Inc l → Inc m → (∀ s, s ∈ l ↔ s ∈ m) → l = m
  | [], [], _, _, _ => rfl
  | [], b :: m, _, _, h => by simpa using (h b).2 (by simp)
  | a :: l, [], _, _, h => by simpa using (h a).1 (by simp)
  | a :: l, b :: m, hl, hm, h => by
    obtain ⟨hl1, hl2⟩ := List.pairwise_cons.1 hl
    obtain ⟨hm1, hm2⟩ := List.pairwise_cons.1 hm
    have hab : a = b := by
      have h1 := (h a).1 (by simp)
      have h2 := (h b).2 (by simp)
      rcases List.mem_cons.1 h1 with e | e
      · exact e
      · rcases List.mem_cons.1 h2 with e' | e'
        · exact e'.symm
        · have := hm1 a e
          have := hl1 b e'
          omega
    subst hab
    rw [inc_ext hl2 hm2 fun s => ?_]
    constructor
    · intro hs
      rcases List.mem_cons.1 ((h s).1 (List.mem_cons_of_mem _ hs)) with e | e
      · subst e
        have := hl1 _ hs
        omega
      · exact e
    · intro hs
      rcases List.mem_cons.1 ((h s).2 (List.mem_cons_of_mem _ hs)) with e | e
      · subst e
        have := hm1 _ hs
        omega
      · exact e
theorem Inc.nodup {l : List Int} (h : Inc l) : l.Nodup := h.imp fun h => by omega
/-- A duplicate-free list within another one is no longer. -/
theorem nodup_len : ∀ {l m : List Int}, l.Nodup → (∀ x ∈ l, x ∈ m) → l.length ≤ m.length
  | [], _, _, _ => by simp
  | a :: l, m, h, hs => by
    obtain ⟨h1, h2⟩ := List.nodup_cons.1 h
    have := nodup_len (m := m.erase a) h2 fun x hx => by
      have hxa : x ≠ a := fun e => h1 (e ▸ hx)
      exact (List.mem_erase_of_ne hxa).2 (hs x (List.mem_cons_of_mem _ hx))
    have ha := hs a (by simp)
    rw [List.length_erase_of_mem ha] at this
    have : 0 < m.length := List.length_pos_of_mem ha
    simp
    omega
/-- The list of a list's members in order, each once. -/
def insI (x : Int) : List Int → List Int
  | [] => [x]
  | y :: l => if x < y then x :: y :: l else if x = y then y :: l else y :: insI x l
def incOf : List Int → List Int
  | [] => []
  | x :: l => insI x (incOf l)
theorem mem_insI {x y : Int} : ∀ {l : List Int}, y ∈ insI x l ↔ y = x ∨ y ∈ l
  | [] => by simp [insI]
  | z :: l => by
    unfold insI
    split
    · simp
    · split
      · rename_i h; subst h; simp
      · simp only [List.mem_cons, mem_insI (l := l)]
        constructor
        · rintro (h | h | h) <;> simp [h]
        · rintro (h | h | h) <;> simp [h]
theorem inc_insI {x : Int} : ∀ {l : List Int}, Inc l → Inc (insI x l)
  | [], _ => by simp [insI]
  | z :: l, h => by
    obtain ⟨h1, h2⟩ := List.pairwise_cons.1 h
    unfold insI
    split
    · rename_i hx
      refine List.pairwise_cons.2 ⟨fun y hy => ?_, h⟩
      rcases List.mem_cons.1 hy with e | e
      · omega
      · have := h1 y e
        omega
    · split
      · exact h
      · refine List.pairwise_cons.2 ⟨fun y hy => ?_, inc_insI h2⟩
        rcases mem_insI.1 hy with e | e
        · omega
        · exact h1 y e
theorem mem_incOf {y : Int} : ∀ {l : List Int}, y ∈ incOf l ↔ y ∈ l
  | [] => by simp [incOf]
  | z :: l => by simp [incOf, mem_insI, mem_incOf (l := l)]
theorem inc_incOf : ∀ {l : List Int}, Inc (incOf l)
  | [] => by simp [incOf]
  | z :: l => inc_insI inc_incOf
theorem incOf_len {l : List Int} (h : l.Nodup) : (incOf l).length = l.length := by
  have h1 := nodup_len (l := incOf l) (m := l) inc_incOf.nodup (fun x hx => mem_incOf.1 hx)
  have h2 := nodup_len (l := l) (m := incOf l) h (fun x hx => mem_incOf.2 hx)
  omega
/-! ### Facts and denials -/
def Fc.z : Fc := ⟨0, 0, 0, [], 0, []⟩
def fc (F : List Fc) (x : Int) : Fc := (F[x.toNat]?).getD Fc.z
def colV (f : Fc) (c : Int) : Option V := if 0 ≤ c ∧ c < f.row.length then f.row[c.toNat]? else none
/-- The value of a side for some facts. -/
def sideV (s : Sd) (F : List Fc) (a : List Int) : Option V :=
  if s.var = -1 then some s.v else if s.var < 0 ∨ (a.length : Int) ≤ s.var then none else colV (fc F ((a[s.var.toNat]?).getD 0)) s.col
def testV (t : Tst) : Option V → Option V → Bool
  | some x, some y => rTest x.k x.n x.t t.op y.k y.n y.t t.add
  | _, _ => false
def testR (F : List Fc) (a : List Int) (t : Tst) : Bool := testV t (sideV t.l F a) (sideV t.r F a)
def tabOk (d : Rl) (F : List Fc) (a : List Int) : Bool := (a.zip d.tables).all fun q => decide ((fc F q.1).table = q.2)
def holdsR (d : Rl) (F : List Fc) (a : List Int) : Bool := tabOk d F a && d.tests.all (testR F a)
/-- Two facts of a list exclude each other. -/
def ExP (F : List Fc) (s : List Int) : Prop := ∃ (i k : Nat) (_ : k < i) (hi : i < s.length), excl (fc F s[i]) (fc F s[k]) = true
theorem excl_symm (a b : Fc) : excl a b = excl b a := by
  unfold excl
  rw [Bool.or_comm]
  congr 1
  simp only [decide_eq_decide]
  exact ⟨fun h => h.symm, fun h => h.symm⟩
theorem exP_iff {F : List Fc} {s : List Int} (h : s.Nodup) : ExP F s ↔ ∃ a b, a ∈ s ∧ b ∈ s ∧ a ≠ b ∧ excl (fc F a) (fc F b) = true := by
  constructor
  · rintro ⟨i, k, hk, hi, he⟩
    refine ⟨s[i], s[k], List.getElem_mem hi, List.getElem_mem _, fun e => ?_, he⟩
    exact (List.pairwise_iff_getElem.1 h) k i (by omega) hi hk e.symm
  · rintro ⟨a, b, ha, hb, hab, he⟩
    obtain ⟨i, hi, rfl⟩ := List.mem_iff_getElem.1 ha
    obtain ⟨k, hk, rfl⟩ := List.mem_iff_getElem.1 hb
    have hik : i ≠ k := fun e => hab (by subst e; rfl)
    by_cases hlt : k < i
    · exact ⟨i, k, hlt, hi, he⟩
    · exact ⟨k, i, by omega, hk, by rw [excl_symm]; exact he⟩
/-- The denials of rules. -/
def small3 (d : Rl) : Bool := decide (0 < d.tables.length) && decide (d.tables.length ≤ 3)
def denials (R : List Rl) : List Rl := R.flatMap fun r => (lower r).filter small3
def BadP (R : List Rl) (F : List Fc) (s : List Int) : Prop := ExP F s ∨ ∃ d ∈ denials R, ∃ e : List Int, e.length = d.tables.length ∧ e.Nodup ∧ (∀ x ∈ e, x ∈ s) ∧ holdsR d F e = true
theorem denials_small {R : List Rl} {d : Rl} (h : d ∈ denials R) : 0 < d.tables.length ∧ d.tables.length ≤ 3 := by
  unfold denials at h
  obtain ⟨r, _, h⟩ := List.mem_flatMap.1 h
  have := (List.mem_filter.1 h).2
  simpa [small3] using this
theorem bad_mono {R : List Rl} {F : List Fc} {s t : List Int} (hs : s.Nodup) (ht : t.Nodup) (hst : ∀ x ∈ s, x ∈ t) (h : BadP R F s) : BadP R F t := by
  rcases h with h | ⟨d, hd, e, h1, h2, h3, h4⟩
  · obtain ⟨a, b, ha, hb, hab, he⟩ := (exP_iff hs).1 h
    exact .inl ((exP_iff ht).2 ⟨a, b, hst a ha, hst b hb, hab, he⟩)
  · exact .inr ⟨d, hd, e, h1, h2, fun x hx => hst x (h3 x hx), h4⟩
/-- A bad set has a bad part of at most three members, and not of none. -/
theorem bad_small {R : List Rl} {F : List Fc} {s : List Int} (hs : s.Nodup) (h : BadP R F s) : ∃ t : List Int, Inc t ∧ (∀ x ∈ t, x ∈ s) ∧ 0 < t.length ∧ t.length ≤ 3 ∧ BadP R F t := by
  rcases h with h | ⟨d, hd, e, h1, h2, h3, h4⟩
  · obtain ⟨a, b, ha, hb, hab, he⟩ := (exP_iff hs).1 h
    have hnd : [a, b].Nodup := by simp [hab]
    refine ⟨incOf [a, b], inc_incOf, fun x hx => ?_, by rw [incOf_len hnd]; simp, by rw [incOf_len hnd]; simp, .inl ((exP_iff inc_incOf.nodup).2 ⟨a, b, mem_incOf.2 (by simp), mem_incOf.2 (by simp), hab, he⟩)⟩
    have := mem_incOf.1 hx
    simp at this
    rcases this with rfl | rfl
    · exact ha
    · exact hb
  · have := denials_small hd
    exact ⟨incOf e, inc_incOf, fun x hx => h3 x (mem_incOf.1 hx), by rw [incOf_len h2]; omega, by rw [incOf_len h2]; omega, .inr ⟨d, hd, e, h1, h2, fun x hx => mem_incOf.2 hx, h4⟩⟩
/-! ### Least bad sets -/
def MinBad (R : List Rl) (F : List Fc) (s : List Int) : Prop := SetP s F.length ∧ BadP R F s ∧ ∀ t, Inc t → (∀ x ∈ t, x ∈ s) → BadP R F t → t = s
theorem minBad_len {R : List Rl} {F : List Fc} {s : List Int} (h : MinBad R F s) : 0 < s.length ∧ s.length ≤ 3 := by
  obtain ⟨h1, h2, h3⟩ := h
  obtain ⟨t, t1, t2, t3, t4, t5⟩ := bad_small (setP_iff.1 h1).1.nodup h2
  rw [h3 t t1 t2 t5] at t3 t4
  exact ⟨t3, t4⟩
/-- The list of the violations. -/
def IsViol (R : List Rl) (F : List Fc) (v : List (List Int)) : Prop := LSorted v ∧ ∀ s, s ∈ v ↔ MinBad R F s
theorem IsViol.uniq {R : List Rl} {F : List Fc} {v w : List (List Int)} (hv : IsViol R F v) (hw : IsViol R F w) : v = w := lsorted_ext hv.1 hw.1 fun s => (hv.2 s).trans (hw.2 s).symm
end Go.Proofs.T1
/- Plain laws, part b: what the program's iterators yield, and the least ones among it. -/
namespace Go.Proofs.T1
open Go.Vc
theorem wrap_small {n : Int} (h1 : -9223372036854775808 ≤ n) (h2 : n ≤ 9223372036854775807) : IntKind.i64.wrap n = n := wrap64_id (by omega)
theorem v4 (n n' : Int) : vCmp 4 n ⟨#[]⟩ 4 n' ⟨#[]⟩ = sgn (n - n') 0 := by
  have h1 : sgn 4 4 = 0 := by decide
  have h2 : sgnS ⟨#[]⟩ ⟨#[]⟩ = 0 := by decide +kernel
  have h3 : sgn n n' = sgn (n - n') 0 := by
    unfold sgn
    split <;> split <;> first | rfl | omega | (split <;> first | rfl | omega) | skip
    all_goals (split <;> first | rfl | omega)
  unfold vCmp
  rw [h1, h2, h3]
  simp only [ne_eq, not_true_eq_false, if_false]
  split
  · rfl
  · rename_i h
    exact (Decidable.not_not.1 h).symm
theorem vTest_eq (k n : Int) (t : ByteArray) (op k' n' : Int) (t' : ByteArray) (add : Int) : vTest k n t op k' n' t' add = rTest k n t op k' n' t' add := by
  by_cases h1 : rValid k n t = true
  · by_cases h2 : rValid k' n' t' = true
    · by_cases h3 : k = k'
      · subst h3
        have hk : k = 0 ∨ k = 1 ∨ k = 2 ∨ k = 3 ∨ k = 4 := by
          simp [rValid] at h1
          omega
        unfold vTest rTest
        rcases hk with rfl | rfl | rfl | rfl | rfl
        · simp
        · by_cases ha : add = 0 <;> simp [h1, h2, ha]
        · simp [h1, h2]
        · simp [h1, h2]
        · simp [rValid] at h1 h2
          obtain ⟨h1, rfl⟩ := h1
          obtain ⟨h2, rfl⟩ := h2
          have hw : IntKind.i64.wrap (n - n') = n - n' := wrap_small (by omega) (by omega)
          have hv : rValid 4 n ⟨#[]⟩ = true ∧ rValid 4 n' ⟨#[]⟩ = true := by simp [rValid, h1, h2]
          by_cases ha : add = 0 <;> simp [hv.1, hv.2, ha, v4, hw]
      · simp [vTest, rTest, h3]
    · simp [vTest, rTest, h2]
  · simp [vTest, rTest, h1]
/-! ### Tests of a part of an assignment -/
/-- Does a side need a later variable? -/
def sideL (s : Sd) (n : Int) (a : List Int) : Bool := decide (s.var ≠ -1 ∧ 0 ≤ s.var ∧ s.var < n ∧ (a.length : Int) ≤ s.var)
def sideO (s : Sd) (n : Int) (F : List Fc) (a : List Int) : Option V :=
  if s.var = -1 then some s.v else if s.var < 0 ∨ n ≤ s.var then none else if (a.length : Int) ≤ s.var then some V.z else colV (fc F ((a[s.var.toNat]?).getD 0)) s.col
def testD (t : Tst) (later : Bool) : Option V → Option V → Bool
  | some x, some y => later || vTest x.k x.n x.t t.op y.k y.n y.t t.add
  | _, _ => false
def holdsD (t : Tst) (n : Int) (F : List Fc) (a : List Int) : Bool := testD t (sideL t.l n a || sideL t.r n a) (sideO t.l n F a) (sideO t.r n F a)
theorem sideO_full {s : Sd} {n : Int} {F : List Fc} {a : List Int} (h : (a.length : Int) = n) : sideO s n F a = sideV s F a ∧ sideL s n a = false := by
  subst h
  unfold sideO sideV sideL
  refine ⟨?_, by first | (simp; done) | (simp; omega)⟩
  split
  · rfl
  · split
    · rfl
    · rename_i h1
      rw [if_neg (by omega)]
theorem holdsD_full {t : Tst} {n : Int} {F : List Fc} {a : List Int} (h : (a.length : Int) = n) : holdsD t n F a = testR F a t := by
  unfold holdsD testR
  rw [(sideO_full (F := F) h).1, (sideO_full (F := F) h).1, (sideO_full (F := F) h).2, (sideO_full (F := F) h).2]
  unfold testD testV
  split <;> simp_all [vTest_eq]
/-- A side for a part: as later, or needed later. -/
theorem sideO_pre {s : Sd} {n : Int} {F : List Fc} {p q : List Int} (h : ((p ++ q).length : Int) = n) {v : V} (hv : sideV s F (p ++ q) = some v) : ∃ u, sideO s n F p = some u ∧ (sideL s n p = false → u = v) := by
  subst h
  unfold sideV at hv
  unfold sideO sideL
  split at hv
  · rename_i h1
    injection hv with hv
    exact ⟨_, if_pos h1, fun _ => hv⟩
  · rename_i h1
    split at hv
    · cases hv
    · rename_i h2
      have hlen : ((p ++ q).length : Int) = p.length + q.length := by simp
      rw [if_neg h1, if_neg h2]
      by_cases h3 : (p.length : Int) ≤ s.var
      · rw [if_pos h3]
        refine ⟨_, rfl, fun h => ?_⟩
        simp at h
        omega
      · rw [if_neg h3]
        rw [List.getElem?_append_left (by omega)] at hv
        exact ⟨v, hv, fun _ => rfl⟩
theorem holdsD_pre {t : Tst} {n : Int} {F : List Fc} {p q : List Int} (h : ((p ++ q).length : Int) = n) (ht : testR F (p ++ q) t = true) : holdsD t n F p = true := by
  unfold testR testV at ht
  split at ht
  · rename_i x y hx hy
    obtain ⟨u, hu, hu'⟩ := sideO_pre h hx
    obtain ⟨w, hw, hw'⟩ := sideO_pre h hy
    unfold holdsD
    rw [hu, hw]
    simp only [testD, Bool.or_eq_true]
    by_cases h1 : sideL t.l n p = true
    · exact .inl (.inl h1)
    · by_cases h2 : sideL t.r n p = true
      · exact .inl (.inr h2)
      · right
        rw [hu' (by simpa using h1), hw' (by simpa using h2), vTest_eq]
        exact ht
  · cases ht
/-! ### What is yielded -/
/-- The sets that violate a denial, with some variables assigned and k not. -/
def asg (d : Rl) (F : List Fc) (cs : List Int) : Nat → List Int → List (List Int)
  | 0, a => [incOf a]
  | k + 1, a => cs.flatMap fun c => if (d.tables[a.length]?).getD 0 ≠ (fc F c).table ∨ isIn a c = true then [] else if d.tests.all (fun t => holdsD t d.tables.length F (a ++ [c])) then asg d F cs k (a ++ [c]) else []
theorem zip_snoc {α β : Type} {c : α} : ∀ (a : List α) (l : List β) (h : a.length < l.length), (a ++ [c]).zip l = a.zip l ++ [(c, l[a.length])]
  | [], y :: l, _ => by simp
  | x :: a, y :: l, h => by
    have := zip_snoc (c := c) a l (by simpa using h)
    simp only [List.cons_append, List.zip_cons_cons, this]
    rfl
  | [], [], h => by simp at h
  | _ :: _, [], h => by simp at h
theorem asg_mem {d : Rl} {F : List Fc} {cs : List Int} {s : List Int} : ∀ {k : Nat} {a : List Int}, a.length + k = d.tables.length → a.Nodup → tabOk d F a = true → (0 < k ∨ d.tests.all (testR F a) = true) →
    (s ∈ asg d F cs k a ↔ ∃ e : List Int, e.length = k ∧ (a ++ e).Nodup ∧ (∀ x ∈ e, x ∈ cs) ∧ holdsR d F (a ++ e) = true ∧ s = incOf (a ++ e))
  | 0, a, hl, ha, ht, hk => by
    simp only [asg, List.mem_singleton]
    constructor
    · intro h
      refine ⟨[], rfl, by simpa using ha, by simp, ?_, by simpa using h⟩
      rcases hk with hk | hk
      · omega
      · simp [holdsR, ht, hk]
    · rintro ⟨e, he, _, _, _, h⟩
      obtain rfl := List.eq_nil_of_length_eq_zero he
      simpa using h
  | k + 1, a, hl, ha, ht, hk => by
    simp only [asg, List.mem_flatMap]
    have tab : ∀ c, tabOk d F (a ++ [c]) = true ↔ (d.tables[a.length]?).getD 0 = (fc F c).table := fun c => by
      have hlt : a.length < d.tables.length := by omega
      have hz : (a ++ [c]).zip d.tables = a.zip d.tables ++ [(c, d.tables[a.length])] := zip_snoc a d.tables hlt
      unfold tabOk at ht ⊢
      rw [hz, List.all_append, ht]
      simp [List.getElem?_eq_getElem hlt]
      exact ⟨fun h => h.symm, fun h => h.symm⟩
    constructor
    · rintro ⟨c, hc, hs⟩
      split at hs
      · simp at hs
      · rename_i h1
        split at hs
        · rename_i h2
          have h1' : (d.tables[a.length]?).getD 0 = (fc F c).table ∧ ¬ isIn a c = true := by
            constructor
            · exact Decidable.not_not.1 fun e => h1 (.inl e)
            · exact fun e => h1 (.inr e)
          have hnd : (a ++ [c]).Nodup := by
            rw [List.nodup_append]
            refine ⟨ha, by simp, fun y hy z hz => ?_⟩
            simp at hz
            subst hz
            exact fun e => h1'.2 (isIn_iff.2 (e ▸ hy))
          have hlen : (a ++ [c]).length + k = d.tables.length := by simp; omega
          have hkk : 0 < k ∨ d.tests.all (testR F (a ++ [c])) = true := by
            by_cases h0 : 0 < k
            · exact .inl h0
            · right
              rw [List.all_eq_true] at h2 ⊢
              intro t htm
              rw [← holdsD_full (n := d.tables.length) (by omega)]
              exact h2 t htm
          obtain ⟨e, e1, e2, e3, e4, e5⟩ := (asg_mem hlen hnd ((tab c).2 h1'.1) hkk).1 hs
          refine ⟨c :: e, by simp [e1], by simpa using e2, fun y hy => ?_, by simpa using e4, by simpa using e5⟩
          rcases List.mem_cons.1 hy with e' | e'
          · exact e' ▸ hc
          · exact e3 y e'
        · simp at hs
    · rintro ⟨e, e1, e2, e3, e4, e5⟩
      match e, e1 with
      | c :: e, e1 =>
        have hnd : ((a ++ [c]) ++ e).Nodup := by simpa using e2
        have hax := (List.nodup_append.1 hnd).1
        have hh : holdsR d F ((a ++ [c]) ++ e) = true := by simpa using e4
        have hlen : ((a ++ [c]) ++ e).length = d.tables.length := by simp at e1 ⊢; omega
        have htab : tabOk d F (a ++ [c]) = true := by
          have h1 : tabOk d F ((a ++ [c]) ++ e) = true := by
            unfold holdsR at hh
            simp at hh
            simpa using hh.1
          unfold tabOk at h1 ⊢
          rw [List.all_eq_true] at h1 ⊢
          intro q hq
          refine h1 q ?_
          obtain ⟨i, hi⟩ := List.mem_iff_getElem?.1 hq
          rw [List.getElem?_zip_eq_some] at hi
          refine List.mem_iff_getElem?.2 ⟨i, ?_⟩
          rw [List.getElem?_zip_eq_some]
          refine ⟨?_, hi.2⟩
          have : i < (a ++ [c]).length := by
            by_cases h : i < (a ++ [c]).length
            · exact h
            · rw [List.getElem?_eq_none (by omega)] at hi
              cases hi.1
          rw [List.getElem?_append_left this]
          exact hi.1
        have hte : d.tests.all (testR F ((a ++ [c]) ++ e)) = true := by
          unfold holdsR at hh
          rw [Bool.and_eq_true] at hh
          exact hh.2
        have hni : ¬ isIn a c = true := fun h => (List.nodup_append.1 hax).2.2 c (isIn_iff.1 h) c (by simp) rfl
        refine ⟨c, e3 c (by simp), ?_⟩
        rw [if_neg (by
          rintro (h | h)
          · exact h ((tab c).1 htab)
          · exact hni h), if_pos (by
          rw [List.all_eq_true] at hte ⊢
          exact fun t htm => holdsD_pre (by omega) (hte t htm))]
        have hkk : 0 < k ∨ d.tests.all (testR F (a ++ [c])) = true := by
          by_cases h0 : 0 < k
          · exact .inl h0
          · right
            have : e = [] := List.eq_nil_of_length_eq_zero (by simp at e1; omega)
            subst this
            simpa using hte
        exact (asg_mem (by simp; omega) hax htab hkk).2 ⟨e, by simpa using e1, hnd, fun y hy => e3 y (by simp [hy]), hh, by simpa using e5⟩
/-- The pairs of facts that exclude each other, among candidates. -/
def excs (F : List Fc) : List Int → List Int → List (List Int)
  | _, [] => []
  | seen, c :: l => ((seen.filter fun b => excl (fc F c) (fc F b)).map fun b => [b, c]) ++ excs F (seen ++ [c]) l
theorem excs_mem {F : List Fc} {s : List Int} : ∀ {l seen : List Int}, s ∈ excs F seen l ↔ ∃ l1 c l2 b, l = l1 ++ c :: l2 ∧ b ∈ seen ++ l1 ∧ excl (fc F c) (fc F b) = true ∧ s = [b, c]
  | [], seen => by simp [excs]
  | c :: l, seen => by
    simp only [excs, List.mem_append, List.mem_map, List.mem_filter, excs_mem (l := l)]
    constructor
    · rintro (⟨b, ⟨h1, h2⟩, rfl⟩ | ⟨l1, c', l2, b, rfl, h2, h3, rfl⟩)
      · exact ⟨[], c, l, b, rfl, by simpa using h1, h2, rfl⟩
      · refine ⟨c :: l1, c', l2, b, by simp, ?_, h3, rfl⟩
        rcases h2 with (h2 | h2) | h2
        · exact .inl h2
        · exact .inr (by simp at h2; simp [h2])
        · exact .inr (by simp [h2])
    · rintro ⟨l1, c', l2, b, h1, h2, h3, rfl⟩
      match l1, h1 with
      | [], h1 =>
        simp only [List.nil_append, List.cons.injEq] at h1
        obtain ⟨rfl, rfl⟩ := h1
        left
        exact ⟨b, ⟨by simpa using h2, h3⟩, rfl⟩
      | x :: l1, h1 =>
        simp only [List.cons_append, List.cons.injEq] at h1
        obtain ⟨rfl, rfl⟩ := h1
        right
        refine ⟨l1, c', l2, b, rfl, ?_, h3, rfl⟩
        rcases h2 with h2 | h2
        · exact .inl (.inl h2)
        · rcases List.mem_cons.1 h2 with e | e
          · exact .inl (.inr (by simp [e]))
          · exact .inr e
/-- What witnesses yields. -/
def wits (R : List Rl) (F : List Fc) (cs : List Int) : List (List Int) := excs F [] cs ++ (denials R).flatMap fun d => asg d F cs d.tables.length []
theorem wits_mem {R : List Rl} {F : List Fc} {cs s : List Int} (hcs : Inc cs) : s ∈ wits R F cs → Inc s ∧ (∀ x ∈ s, x ∈ cs) ∧ 0 < s.length ∧ s.length ≤ 3 ∧ BadP R F s := by
  unfold wits
  rw [List.mem_append, excs_mem, List.mem_flatMap]
  rintro (⟨l1, c, l2, b, rfl, h2, h3, rfl⟩ | ⟨d, hd, hs⟩)
  · simp only [List.nil_append] at h2
    have hbc : b < c := (List.pairwise_append.1 hcs).2.2 b h2 c (by simp)
    have hi : Inc [b, c] := by simp [hbc]
    refine ⟨hi, fun x hx => ?_, by simp, by simp, .inl ((exP_iff hi.nodup).2 ⟨b, c, by simp, by simp, by omega, by rw [excl_symm]; exact h3⟩)⟩
    simp at hx
    rcases hx with rfl | rfl
    · simp [h2]
    · simp
  · have hsm := denials_small hd
    obtain ⟨e, e1, e2, e3, e4, rfl⟩ := (asg_mem (by simp) (by simp) (by simp [tabOk]) (.inl hsm.1)).1 hs
    simp only [List.nil_append] at e2 e4 ⊢
    refine ⟨inc_incOf, fun x hx => e3 x (mem_incOf.1 hx), by rw [incOf_len e2]; omega, by rw [incOf_len e2]; omega, .inr ⟨d, hd, e, e1, e2, fun x hx => mem_incOf.2 hx, e4⟩⟩
/-- Each bad set has one of what is yielded for candidates among which it lies. -/
theorem wits_of_bad {R : List Rl} {F : List Fc} {cs s : List Int} (hcs : Inc cs) (hs : s.Nodup) (hsub : ∀ x ∈ s, x ∈ cs) (hb : BadP R F s) : ∃ t ∈ wits R F cs, ∀ x ∈ t, x ∈ s := by
  unfold wits
  rcases hb with h | ⟨d, hd, e, h1, h2, h3, h4⟩
  · obtain ⟨a, b, ha, hb, hab, he⟩ := (exP_iff hs).1 h
    -- the lesser one first
    have key : ∀ a b, a ∈ s → b ∈ s → a < b → excl (fc F a) (fc F b) = true → ∃ t ∈ excs F [] cs, ∀ x ∈ t, x ∈ s := fun a b ha hb hlt he => by
      obtain ⟨l1, l2, hl⟩ := List.append_of_mem (hsub b hb)
      refine ⟨[a, b], excs_mem.2 ⟨l1, b, l2, a, hl, ?_, by rw [excl_symm]; exact he, rfl⟩, fun x hx => ?_⟩
      · have hm := hsub a ha
        rw [hl] at hm hcs
        rcases List.mem_append.1 hm with e | e
        · simpa using e
        · rcases List.mem_cons.1 e with e | e
          · omega
          · have := (List.pairwise_cons.1 (List.pairwise_append.1 hcs).2.1).1 a e
            omega
      · simp at hx
        rcases hx with rfl | rfl
        · exact ha
        · exact hb
    have : ∃ t ∈ excs F [] cs, ∀ x ∈ t, x ∈ s := by
      by_cases hlt : a < b
      · exact key a b ha hb hlt he
      · exact key b a hb ha (by omega) (by rw [excl_symm]; exact he)
    obtain ⟨t, h1, h2⟩ := this
    exact ⟨t, List.mem_append.2 (.inl h1), h2⟩
  · have hsm := denials_small hd
    refine ⟨incOf e, List.mem_append.2 (.inr (List.mem_flatMap.2 ⟨d, hd, (asg_mem (by simp) (by simp) (by simp [tabOk]) (.inl hsm.1)).2 ⟨e, h1, by simpa using h2, fun x hx => hsub x (h3 x hx), by simpa using h4, by simp⟩⟩)), fun x hx => h3 x (mem_incOf.1 hx)⟩
theorem wits_nil {R : List Rl} {F : List Fc} {cs : List Int} (hcs : Inc cs) : wits R F cs = [] ↔ ¬ BadP R F cs := by
  constructor
  · intro h hb
    obtain ⟨t, ht, _⟩ := wits_of_bad hcs hcs.nodup (fun x hx => hx) hb
    rw [h] at ht
    cases ht
  · intro h
    refine List.eq_nil_iff_forall_not_mem.2 fun s hs => h ?_
    obtain ⟨h1, h2, _, _, h5⟩ := wits_mem hcs hs
    exact bad_mono h1.nodup hcs.nodup h2 h5
/-! ### The least ones -/
/-- All proper parts of a set of at most three numbers. -/
def parts : List Int → List (List Int)
  | [a, b] => [[a], [b]]
  | [a, b, c] => [[a], [b], [a, b], [c], [a, c], [b, c]]
  | _ => []
theorem parts_sub {s p : List Int} (hs : Inc s) (h : p ∈ parts s) : Inc p ∧ (∀ x ∈ p, x ∈ s) ∧ p ≠ s := by
  unfold parts at h
  split at h
  · simp at hs h
    rcases h with rfl | rfl <;> simp
  · rename_i a b c
    simp at hs h
    obtain ⟨⟨h1, h2⟩, h3⟩ := hs
    rcases h with rfl | rfl | rfl | rfl | rfl | rfl <;> simp [*]
  · simp at h
theorem sub_parts {s p : List Int} (hs : Inc s) (h3 : s.length ≤ 3) (hp : Inc p) (hp0 : 0 < p.length) (hsub : ∀ x ∈ p, x ∈ s) (hne : p ≠ s) : p ∈ parts s := by
  -- p is the sublist of its members
  have hpf : p = s.filter (isIn p) := inc_ext hp (List.Pairwise.filter _ hs) fun x => by
    rw [List.mem_filter, isIn_iff]
    exact ⟨fun h => ⟨hsub x h, h⟩, fun h => h.2⟩
  match s, h3 with
  | [], _ => rw [hpf] at hp0; simp at hp0
  | [a], _ =>
    cases ha : isIn p a with
    | true => rw [List.filter_cons, ha] at hpf; exact absurd (by simpa using hpf) hne
    | false => rw [List.filter_cons, ha] at hpf; simp at hpf; rw [hpf] at hp0; simp at hp0
  | [a, b], _ =>
    cases ha : isIn p a <;> cases hb : isIn p b <;> simp [List.filter_cons, ha, hb] at hpf
    · rw [hpf] at hp0; simp at hp0
    · simp [parts, hpf]
    · simp [parts, hpf]
    · exact absurd hpf hne
  | [a, b, c], _ =>
    cases ha : isIn p a <;> cases hb : isIn p b <;> cases hc : isIn p c <;> simp [List.filter_cons, ha, hb, hc] at hpf
    · rw [hpf] at hp0; simp at hp0
    · simp [parts, hpf]
    · simp [parts, hpf]
    · simp [parts, hpf]
    · simp [parts, hpf]
    · simp [parts, hpf]
    · simp [parts, hpf]
    · exact absurd hpf hne
/-- What minimal returns. -/
def MinOf (sets out : List (List Int)) : Prop := LSorted out ∧ ∀ s, s ∈ out ↔ s ∈ sets ∧ ∀ p ∈ parts s, p ∉ sets
theorem MinOf.uniq {sets v w : List (List Int)} (hv : MinOf sets v) (hw : MinOf sets w) : v = w := lsorted_ext hv.1 hw.1 fun s => (hv.2 s).trans (hw.2 s).symm
def allI (n : Nat) : List Int := (List.range n).map Int.ofNat
theorem mem_allI {n : Nat} {x : Int} : x ∈ allI n ↔ 0 ≤ x ∧ x < n := by
  unfold allI
  rw [List.mem_map]
  constructor
  · rintro ⟨a, ha, rfl⟩
    have := List.mem_range.1 ha
    simp
    omega
  · rintro ⟨h1, h2⟩
    exact ⟨x.toNat, List.mem_range.2 (by omega), by simp; omega⟩
theorem inc_allI {n : Nat} : Inc (allI n) := by
  unfold allI
  rw [Inc, List.pairwise_map]
  exact List.pairwise_lt_range.imp fun h => by simpa using h
/-- The program's violations are the violations. -/
theorem isViol_of_min {R : List Rl} {F : List Fc} {out : List (List Int)} (h : MinOf (wits R F (allI F.length)) out) : IsViol R F out := by
  refine ⟨h.1, fun s => (h.2 s).trans ?_⟩
  constructor
  · rintro ⟨h1, h2⟩
    obtain ⟨w1, w2, w3, w4, w5⟩ := wits_mem inc_allI h1
    refine ⟨setP_iff.2 ⟨w1, fun x hx => mem_allI.1 (w2 x hx)⟩, w5, fun t t1 t2 t3 => ?_⟩
    by_cases e : t = s
    · exact e
    · obtain ⟨u, u1, u2⟩ := wits_of_bad inc_allI t1.nodup (fun x hx => w2 x (t2 x hx)) t3
      obtain ⟨v1, v2, v3, v4, v5⟩ := wits_mem inc_allI u1
      have hne : u ≠ s := fun e' => e (by
        subst e'
        exact inc_ext t1 w1 fun x => ⟨t2 x, u2 x⟩)
      exact absurd u1 (h2 u (sub_parts w1 w4 v1 v3 (fun x hx => t2 x (u2 x hx)) hne))
  · intro hm
    have hml := minBad_len hm
    obtain ⟨h1, h2, h3⟩ := hm
    have h1' := setP_iff.1 h1
    have hsub : ∀ x ∈ s, x ∈ allI F.length := fun x hx => mem_allI.2 (h1'.2 x hx)
    obtain ⟨u, u1, u2⟩ := wits_of_bad inc_allI h1'.1.nodup hsub h2
    obtain ⟨v1, v2, v3, v4, v5⟩ := wits_mem inc_allI u1
    have := h3 u v1 u2 v5
    subst this
    refine ⟨u1, fun p hp hpw => ?_⟩
    obtain ⟨p1, p2, p3⟩ := parts_sub h1'.1 hp
    obtain ⟨_, _, _, _, q5⟩ := wits_mem inc_allI hpw
    exact p3 (h3 p p1 p2 q5)
end Go.Proofs.T1
/- Plain laws, part c: sorting, facts that dangle, edges. -/
namespace Go.Proofs.T1
open Go.Vc
/-! ### Sorting by insertion, from the end of the part that is sorted -/
def insL (x : List Int) : List (List Int) → List (List Int)
  | [] => [x]
  | y :: l => if lexLt x y then x :: y :: l else y :: insL x l
def lsort : List (List Int) → List (List Int)
  | [] => []
  | x :: l => insL x (lsort l)
theorem insL_perm {x : List Int} : ∀ {l : List (List Int)}, (insL x l).Perm (x :: l)
  | [] => .refl _
  | y :: l => by
    unfold insL
    split
    · exact .refl _
    · exact (List.Perm.cons y insL_perm).trans (List.Perm.swap _ _ _)
theorem lsort_perm : ∀ {l : List (List Int)}, (lsort l).Perm l
  | [] => .refl _
  | x :: l => insL_perm.trans (List.Perm.cons x lsort_perm)
/-- Weakly ordered. -/
abbrev WSorted (l : List (List Int)) : Prop := l.Pairwise fun a b => lexLt b a = false
theorem lexLe_trans {a b c : List Int} (h1 : lexLt b a = false) (h2 : lexLt c b = false) : lexLt c a = false := by
  cases h : lexLt c a with
  | false => rfl
  | true =>
    cases h3 : lexLt b c with
    | true => rw [lexLt_trans _ _ _ h3 h] at h1; cases h1
    | false =>
      have := lexLt_tri _ _ h2 h3
      subst this
      rw [h] at h1; cases h1
theorem insL_sorted {x : List Int} : ∀ {l : List (List Int)}, WSorted l → WSorted (insL x l)
  | [], _ => by simp [insL]
  | y :: l, h => by
    obtain ⟨h1, h2⟩ := List.pairwise_cons.1 h
    unfold insL
    split
    · rename_i hx
      refine List.pairwise_cons.2 ⟨fun z hz => ?_, h⟩
      rcases List.mem_cons.1 hz with e | e
      · exact e ▸ lexLt_asymm _ _ hx
      · exact lexLe_trans (lexLt_asymm _ _ hx) (h1 z e)
    · rename_i hx
      refine List.pairwise_cons.2 ⟨fun z hz => ?_, insL_sorted h2⟩
      rcases List.mem_cons.1 (insL_perm.mem_iff.1 hz) with e | e
      · rw [e]; simpa using hx
      · exact h1 z e
theorem lsort_sorted : ∀ {l : List (List Int)}, WSorted (lsort l)
  | [] => by simp [lsort]
  | x :: l => insL_sorted lsort_sorted
theorem wsorted_strict {l : List (List Int)} (h : WSorted l) (hn : l.Nodup) : LSorted l := by
  refine (List.Pairwise.and h hn).imp ?_
  rintro a b ⟨h1, h2⟩
  cases h3 : lexLt a b with
  | true => rfl
  | false => exact absurd (lexLt_tri _ _ h3 h1) h2
/-- A weakly ordered list is determined by what it holds. -/
theorem wsorted_ext : ∀ {l m : List (List Int)}, WSorted l → WSorted m → l.Perm m → l = m
  | [], m, _, _, h => (List.nil_perm.1 h).symm ▸ rfl
  | a :: l, [], _, _, h => absurd h.symm (by simp)
  | a :: l, b :: m, hl, hm, h => by
    obtain ⟨hl1, hl2⟩ := List.pairwise_cons.1 hl
    obtain ⟨hm1, hm2⟩ := List.pairwise_cons.1 hm
    have hab : a = b := by
      have h1 := h.mem_iff.1 (by simp : a ∈ a :: l)
      have h2 := h.mem_iff.2 (by simp : b ∈ b :: m)
      rcases List.mem_cons.1 h1 with e | e
      · exact e
      · rcases List.mem_cons.1 h2 with e' | e'
        · exact e'.symm
        · exact lexLt_tri _ _ (hm1 a e) (hl1 b e')
    subst hab
    rw [wsorted_ext hl2 hm2 (List.Perm.cons_inv h)]
theorem lsort_strict {l : List (List Int)} (h : l.Nodup) : LSorted (lsort l) := wsorted_strict lsort_sorted (lsort_perm.nodup_iff.2 h)
theorem mem_lsort {l : List (List Int)} {s : List Int} : s ∈ lsort l ↔ s ∈ l := lsort_perm.mem_iff
/-! ### Facts that dangle -/
def dVal (f : Fc) (c : Int) : V := (colV f c).getD V.z
def offers (r : Rl) (v : V) (f : Fc) : Bool := decide (f.table = r.other) && rTest v.k v.n v.t 1 (dVal f r.otherCol).k (dVal f r.otherCol).n (dVal f r.otherCol).t 0
def nf (F : List Fc) (k : Nat) : Fc := (F[k]?).getD Fc.z
def gone (out : List Bool) (k : Nat) : Bool := (out[k]?).getD false
def dFound (F : List Fc) (out : List Bool) (r : Rl) (v : V) : Bool := (List.range F.length).any fun m => !gone out m && offers r v (nf F m)
/-- A fact needs another one, for a rule. -/
def needs (r : Rl) (f : Fc) : Prop := r.kind = 3 ∧ f.table = r.table ∧ (dVal f r.col).k ≠ 0
/-- Facts that support each other. -/
def Supp (R : List Rl) (F : List Fc) (S : Nat → Prop) : Prop := ∀ k, k < F.length → S k → ∀ r ∈ R, needs r (nf F k) → ∃ m, m < F.length ∧ S m ∧ offers r (dVal (nf F k) r.col) (nf F m) = true
def Least (R : List Rl) (F : List Fc) (out : List Bool) : Prop := ∀ S, Supp R F S → ∀ k, k < F.length → S k → gone out k = false
def dOK (F : List Fc) (out : List Bool) (r : Rl) (k : Nat) : Prop := gone out k = true ∨ ¬ needs r (nf F k) ∨ dFound F out r (dVal (nf F k) r.col) = true
theorem least_set {R : List Rl} {F : List Fc} {out : List Bool} (h : Least R F out) {r : Rl} (hr : r ∈ R) {k : Nat} (hk : k < F.length) (hok : ¬ dOK F out r k) : Least R F (out.set k true) := by
  intro S hS j hj hSj
  have h1 := h S hS j hj hSj
  by_cases e : k = j
  · subst e
    have hn : needs r (nf F k) := Classical.byContradiction fun e => hok (.inr (.inl e))
    obtain ⟨m, hm, hSm, ho⟩ := hS k hk hSj r hr hn
    exact absurd (.inr (.inr (by
      unfold dFound
      rw [List.any_eq_true]
      exact ⟨m, List.mem_range.2 hm, by rw [h S hS m hm hSm, ho]; rfl⟩))) hok
  · unfold gone at h1 ⊢
    rw [List.getElem?_set_ne e]
    exact h1
structure IsDang (R : List Rl) (F : List Fc) (out : List Bool) : Prop where
  len : out.length = F.length
  least : Least R F out
  fix : ∀ r ∈ R, ∀ k, k < F.length → dOK F out r k
theorem IsDang.iff {R : List Rl} {F : List Fc} {out : List Bool} (h : IsDang R F out) {k : Nat} (hk : k < F.length) : gone out k = false ↔ ∃ S, Supp R F S ∧ S k := by
  constructor
  · intro hg
    refine ⟨fun j => gone out j = false, fun j hj hSj r hr hn => ?_, hg⟩
    rcases h.fix r hr j hj with h1 | h1 | h1
    · rw [hSj] at h1; cases h1
    · exact absurd hn h1
    · unfold dFound at h1
      rw [List.any_eq_true] at h1
      obtain ⟨m, hm, h2⟩ := h1
      rw [Bool.and_eq_true, Bool.not_eq_true'] at h2
      exact ⟨m, List.mem_range.1 hm, h2.1, h2.2⟩
  · rintro ⟨S, hS, hk'⟩
    exact h.least S hS k hk hk'
def DangP (R : List Rl) (F : List Fc) (x : Int) : Prop := 0 ≤ x ∧ x < F.length ∧ ¬ ∃ S, Supp R F S ∧ S x.toNat
noncomputable def dangL (R : List Rl) (F : List Fc) : List Int := (allI F.length).filter fun x => @decide (¬ ∃ S, Supp R F S ∧ S x.toNat) (Classical.propDecidable _)
theorem mem_dangL {R : List Rl} {F : List Fc} {x : Int} : x ∈ dangL R F ↔ DangP R F x := by
  unfold dangL DangP
  rw [List.mem_filter, mem_allI]
  simp [and_assoc]
theorem inc_dangL {R : List Rl} {F : List Fc} : Inc (dangL R F) := List.Pairwise.filter _ inc_allI
theorem IsDang.list {R : List Rl} {F : List Fc} {out : List Bool} (h : IsDang R F out) : (allI F.length).filter (fun x => gone out x.toNat) = dangL R F := by
  refine inc_ext (List.Pairwise.filter _ inc_allI) inc_dangL fun x => ?_
  rw [List.mem_filter, mem_dangL, mem_allI]
  constructor
  · rintro ⟨⟨h1, h2⟩, h3⟩
    refine ⟨h1, h2, fun h4 => ?_⟩
    rw [(h.iff (by omega)).2 h4] at h3
    cases h3
  · rintro ⟨h1, h2, h3⟩
    refine ⟨⟨h1, h2⟩, ?_⟩
    cases hg : gone out x.toNat with
    | true => rfl
    | false => exact absurd ((h.iff (by omega)).1 hg) h3
def nfalse (out : List Bool) : Nat := out.count false
theorem nfalse_set {out : List Bool} {k : Nat} (hk : k < out.length) (hg : gone out k = false) : nfalse (out.set k true) < nfalse out := by
  unfold nfalse gone at *
  rw [List.getElem?_eq_getElem hk] at hg
  simp at hg
  have h1 : out = out.take k ++ false :: out.drop (k + 1) := by
    rw [← hg, ← List.drop_eq_getElem_cons hk]
    exact (List.take_append_drop k out).symm
  have h2 : out.set k true = out.take k ++ true :: out.drop (k + 1) := List.set_eq_take_append_cons_drop.trans (if_pos hk)
  rw [h2]
  conv => rhs; rw [h1]
  simp [List.count_append, List.count_cons]
/-- Each member once. -/
def ddL : List (List Int) → List (List Int)
  | [] => []
  | a :: l => if (ddL l).contains a then ddL l else a :: ddL l
theorem mem_ddL {s : List Int} : ∀ {l : List (List Int)}, s ∈ ddL l ↔ s ∈ l
  | [] => by simp [ddL]
  | a :: l => by
    have ih := mem_ddL (s := s) (l := l)
    unfold ddL
    split
    · rename_i h
      have ha : a ∈ ddL l := by simpa using h
      constructor
      · intro hs
        exact List.mem_cons_of_mem _ (ih.1 hs)
      · intro hs
        rcases List.mem_cons.1 hs with e | e
        · exact e ▸ ha
        · exact ih.2 e
    · simp [ih]
theorem nodup_ddL : ∀ {l : List (List Int)}, (ddL l).Nodup
  | [] => by simp [ddL]
  | a :: l => by
    unfold ddL
    split
    · exact nodup_ddL
    · rename_i h
      exact List.nodup_cons.2 ⟨fun ha => h (by simpa using ha), nodup_ddL⟩
/-! ### The violations and the edges as functions -/
open Classical in
noncomputable def violL (R : List Rl) (F : List Fc) : List (List Int) := if h : ∃ v, IsViol R F v then Classical.choose h else []
theorem violL_eq {R : List Rl} {F : List Fc} {v : List (List Int)} (h : IsViol R F v) : violL R F = v := by
  unfold violL
  have hx : ∃ v, IsViol R F v := ⟨v, h⟩
  rw [dif_pos hx]
  exact (Classical.choose_spec hx).uniq h
open Classical in
noncomputable def minL (sets : List (List Int)) : List (List Int) := if h : ∃ v, MinOf sets v then Classical.choose h else []
theorem minL_eq {sets v : List (List Int)} (h : MinOf sets v) : minL sets = v := by
  unfold minL
  have hx : ∃ v, MinOf sets v := ⟨v, h⟩
  rw [dif_pos hx]
  exact (Classical.choose_spec hx).uniq h
theorem minL_ok (sets : List (List Int)) : MinOf sets (minL sets) := by
  have : ∃ v, MinOf sets v := by
    refine ⟨lsort (ddL (sets.filter fun s => (parts s).all fun p => !sets.contains p)), lsort_strict nodup_ddL, fun s => ?_⟩
    rw [mem_lsort, mem_ddL, List.mem_filter, List.all_eq_true]
    simp
  obtain ⟨v, h⟩ := this
  rw [minL_eq h]
  exact h
theorem violL_ok (R : List Rl) (F : List Fc) : IsViol R F (violL R F) := by
  have h := isViol_of_min (minL_ok (wits R F (allI F.length)))
  rw [violL_eq h]
  exact h
theorem mem_violL {R : List Rl} {F : List Fc} {s : List Int} : s ∈ violL R F ↔ MinBad R F s := (violL_ok R F).2 s
/-- The edges of the graph of conflicts. -/
def singles (d : List Int) : List (List Int) := d.map fun x => [x]
noncomputable def edgeL (R : List Rl) (F : List Fc) : List (List Int) := minL (singles (dangL R F) ++ violL R F)
theorem viol_count_le {R : List Rl} {F : List Fc} (L : List (List Int)) (h : ∀ s, MinBad R F s → s ∈ L) : (violL R F).length ≤ L.length := by
  have hn : (violL R F).Nodup := (violL_ok R F).1.imp fun {a b} h e => by
    subst e
    rw [lexLt_irrefl] at h; cases h
  have : ∀ {l m : List (List Int)}, l.Nodup → (∀ x ∈ l, x ∈ m) → l.length ≤ m.length := by
    intro l
    induction l with
    | nil => simp
    | cons a l ih =>
      intro m h hs
      obtain ⟨h1, h2⟩ := List.nodup_cons.1 h
      have := ih (m := m.erase a) h2 fun x hx => (List.mem_erase_of_ne (fun e => h1 (by rw [← e]; exact hx))).2 (hs x (List.mem_cons_of_mem _ hx))
      have ha := hs a (by simp)
      rw [List.length_erase_of_mem ha] at this
      have : 0 < m.length := List.length_pos_of_mem ha
      simp
      omega
  exact this hn fun x hx => h x (mem_violL.1 hx)
end Go.Proofs.T1
/- Plain laws, part d: what the statements about denials say, of what the program computes. -/
namespace Go.Proofs.T1
open Go.Vc
noncomputable def consL (R : List Rl) (F : List Fc) (s : List Int) : Bool := @decide (SetP s F.length ∧ ¬ BadP R F s) (Classical.propDecidable _)
theorem consL_iff {R : List Rl} {F : List Fc} {s : List Int} : consL R F s = true ↔ SetP s F.length ∧ ¬ BadP R F s := by simp [consL]
theorem consL_false {R : List Rl} {F : List Fc} {s : List Int} (h : BadP R F s) : consL R F s = false := by
  cases hc : consL R F s with
  | false => rfl
  | true => exact absurd h (consL_iff.1 hc).2
/-! ### Least violations -/
/-! ### Consistent exactly if no violation is contained -/
/-! ### The opposite order -/
/-! ### Lowered rules -/
/-! ### Support -/
/-- The facts with some numbers. -/
def pick (F : List Fc) (J : List Nat) : List Fc := J.map (nf F)
end Go.Proofs.T1
/- Plain laws, part e: names of sets; parts of a list of facts. -/
namespace Go.Proofs.T1
open Go.Vc
/-- The decimal digits of a number below a hundred. -/
def dec (x : Nat) : List UInt8 := if x < 10 then [UInt8.ofNat (48 + x)] else [UInt8.ofNat (48 + x / 10), UInt8.ofNat (48 + x % 10)]
def nameL (s : List Int) : List UInt8 := s.flatMap fun x => dec x.toNat ++ [32]
abbrev nameB (s : List Int) : ByteArray := ⟨(nameL s).toArray⟩
theorem ofNat_inj {a b : Nat} (ha : a < 256) (hb : b < 256) (h : UInt8.ofNat a = UInt8.ofNat b) : a = b := by
  have := congrArg UInt8.toNat h
  simp [UInt8.toNat_ofNat'] at this
  omega
theorem dec_cancel {x y : Nat} {l m : List UInt8} (hx : x < 100) (hy : y < 100) (h : dec x ++ 32 :: l = dec y ++ 32 :: m) : x = y ∧ l = m := by
  have h32 : (32 : UInt8) = UInt8.ofNat 32 := rfl
  unfold dec at h
  by_cases h1 : x < 10 <;> by_cases h2 : y < 10
  · rw [if_pos h1, if_pos h2] at h
    simp only [List.cons_append, List.nil_append, List.cons.injEq] at h
    have := ofNat_inj (by omega) (by omega) h.1
    exact ⟨by omega, h.2.2⟩
  · rw [if_pos h1, if_neg h2] at h
    simp only [List.cons_append, List.nil_append, List.cons.injEq] at h
    rw [h32] at h
    have := ofNat_inj (by omega) (by omega) h.2.1
    omega
  · rw [if_neg h1, if_pos h2] at h
    simp only [List.cons_append, List.nil_append, List.cons.injEq] at h
    rw [h32] at h
    have := ofNat_inj (by omega) (by omega) h.2.1
    omega
  · rw [if_neg h1, if_neg h2] at h
    simp only [List.cons_append, List.nil_append, List.cons.injEq] at h
    have g1 := ofNat_inj (by omega) (by omega) h.1
    have g2 := ofNat_inj (by omega) (by omega) h.2.1
    exact ⟨by omega, h.2.2.2⟩
def Small (s : List Int) : Prop := ∀ x ∈ s, 0 ≤ x ∧ x < 100
theorem nameL_inj : ∀ {s t : List Int}, Small s → Small t → nameL s = nameL t → s = t
  | [], [], _, _, _ => rfl
  | [], y :: t, _, _, h => by
    simp [nameL] at h
  | x :: s, [], _, _, h => by
    simp [nameL] at h
  | x :: s, y :: t, hs, ht, h => by
    have hx := hs x (by simp)
    have hy := ht y (by simp)
    have h' : dec x.toNat ++ 32 :: nameL s = dec y.toNat ++ 32 :: nameL t := by simpa [nameL] using h
    obtain ⟨h1, h2⟩ := dec_cancel (by omega) (by omega) h'
    have := nameL_inj (fun z hz => hs z (by simp [hz])) (fun z hz => ht z (by simp [hz])) h2
    subst this
    congr 1
    omega
theorem nameB_inj {s t : List Int} (hs : Small s) (ht : Small t) (h : nameB s = nameB t) : s = t := by
  refine nameL_inj hs ht ?_
  have := congrArg (fun b : ByteArray => b.data.toList) h
  simpa using this
/-! ### Selections -/
def someI (n : Nat) (which : List Bool) : List Int := (allI n).filter fun x => (which[x.toNat]?).getD false
theorem setP_some {n : Nat} {which : List Bool} : SetP (someI n which) n := setP_iff.2 ⟨List.Pairwise.filter _ inc_allI, fun x hx => mem_allI.1 (List.mem_filter.1 hx).1⟩
theorem allI_succ (n : Nat) : allI (n + 1) = allI n ++ [(n : Int)] := by
  unfold allI
  rw [List.range_succ, List.map_append]
  rfl
theorem fc_nat (F : List Fc) (k : Nat) : fc F (k : Int) = nf F k := by
  unfold fc nf
  simp
theorem nf_get {F : List Fc} {k : Nat} (h : k < F.length) : nf F k = F[k] := by
  unfold nf
  rw [List.getElem?_eq_getElem h]
  rfl
/-! ### Reckoned -/
def minC (sets : List (List Int)) : List (List Int) := lsort (ddL (sets.filter fun s => (parts s).all fun p => !sets.contains p))
theorem minC_ok (sets : List (List Int)) : MinOf sets (minC sets) := by
  refine ⟨lsort_strict nodup_ddL, fun s => ?_⟩
  unfold minC
  rw [mem_lsort, mem_ddL, List.mem_filter, List.all_eq_true]
  simp
theorem minL_comp (sets : List (List Int)) : minL sets = minC sets := minL_eq (minC_ok sets)
theorem violL_comp (R : List Rl) (F : List Fc) : violL R F = minC (wits R F (allI F.length)) := violL_eq (isViol_of_min (minC_ok _))
def needsB (r : Rl) (f : Fc) : Bool := decide (r.kind = 3) && (decide (f.table = r.table) && decide ((dVal f r.col).k ≠ 0))
theorem needsB_iff {r : Rl} {f : Fc} : needsB r f = true ↔ needs r f := by simp [needsB, needs]
def okB (F : List Fc) (out : List Bool) (r : Rl) (k : Nat) : Bool := gone out k || (!needsB r (nf F k) || dFound F out r (dVal (nf F k) r.col))
theorem okB_iff {F : List Fc} {out : List Bool} {r : Rl} {k : Nat} : okB F out r k = true ↔ dOK F out r k := by
  unfold okB dOK
  rw [Bool.or_eq_true, Bool.or_eq_true, Bool.not_eq_true', ← needsB_iff]
  simp
def dStepC (F : List Fc) (r : Rl) (out : List Bool) (k : Nat) : List Bool := if okB F out r k then out else out.set k true
def dRoundC (R : List Rl) (F : List Fc) (out : List Bool) : List Bool := R.foldl (fun out r => (List.range F.length).foldl (dStepC F r) out) out
def dIterC (R : List Rl) (F : List Fc) : Nat → List Bool → List Bool
  | 0, o => o
  | n + 1, o => dIterC R F n (dRoundC R F o)
theorem foldl_inv {α β : Type} {f : β → α → β} {I : β → Prop} : ∀ (l : List α) (b : β), I b → (∀ b a, a ∈ l → I b → I (f b a)) → I (l.foldl f b)
  | [], b, h, _ => h
  | a :: l, b, h, hf => foldl_inv l (f b a) (hf b a (by simp) h) fun b a' ha => hf b a' (by simp [ha])
theorem dStepC_inv {R : List Rl} {F : List Fc} {r : Rl} (hr : r ∈ R) {out : List Bool} {k : Nat} (hk : k < F.length) (h : out.length = F.length ∧ Least R F out) : (dStepC F r out k).length = F.length ∧ Least R F (dStepC F r out k) := by
  unfold dStepC
  split
  · exact h
  · rename_i ho
    exact ⟨by rw [List.length_set]; exact h.1, least_set h.2 hr hk fun hd => ho (okB_iff.2 hd)⟩
theorem dIterC_inv {R : List Rl} {F : List Fc} : ∀ (n : Nat) (out : List Bool), out.length = F.length ∧ Least R F out → (dIterC R F n out).length = F.length ∧ Least R F (dIterC R F n out)
  | 0, out, h => h
  | n + 1, out, h => dIterC_inv n _ (foldl_inv (I := fun out => out.length = F.length ∧ Least R F out) R out h fun b r hr hb => foldl_inv (I := fun out => out.length = F.length ∧ Least R F out) _ b hb fun b k hk hb => dStepC_inv hr (List.mem_range.1 hk) hb)
theorem least_none {R : List Rl} {F : List Fc} : Least R F (List.replicate F.length false) := fun S hS k hk _ => by
  unfold gone
  simp [List.getElem?_replicate, hk]
theorem dang_comp {R : List Rl} {F : List Fc} (n : Nat) (h : (R.all fun r => (List.range F.length).all fun k => okB F (dIterC R F n (List.replicate F.length false)) r k) = true) :
    dangL R F = (allI F.length).filter fun x => gone (dIterC R F n (List.replicate F.length false)) x.toNat := by
  have hi := dIterC_inv (R := R) (F := F) n (List.replicate F.length false) ⟨by simp, least_none⟩
  refine (IsDang.list ⟨hi.1, hi.2, fun r hr k hk => ?_⟩).symm
  rw [List.all_eq_true] at h
  have := h r hr
  rw [List.all_eq_true] at this
  exact okB_iff.1 (this k (List.mem_range.2 hk))
end Go.Proofs.T1
/- Part Rb: a region that leaves the order of several effects open: some orders stand for all. -/
namespace Go.Vc
open Go.RowKit
variable {P : Program} {n0 : Nat} {r : Option Nat}
def eager2 (ops : Array Oper) (eff : List Nat) : List Nat → Bool
  | [] => true
  | e :: rest => (!eff.contains e || (!rest.contains e && rest.all fun i => eff.contains i || (predsOf ops i).any fun j => (e :: rest).contains j)) && eager2 ops eff rest
structure DrawOk2 (ops : Array Oper) (eff ord : List Nat) : Prop where
  cover : ∀ i, i < ops.size → i ∈ ord
  inb : ∀ i ∈ ord, i < ops.size
  eag : eager2 ops eff ord = true
  nd : ∀ (i : Nat) (o : Oper), ops[i]? = some o → (∀ c, o.op ≠ .defer c) ∧ ∀ cs b, o.op ≠ .select cs b
  dst : ∀ (i : Nat) (o : Oper), ops[i]? = some o → i ∉ eff → o.dst ≠ none
  rd : ∀ (i : Nat) (o : Oper), ops[i]? = some o → ∀ t ∈ opTmps ops o, ∀ (j : Nat), dstOf ops j = some t → j ∈ predsOf ops i ∨ j ∈ eff
  uniq : ∀ (i : Nat) (o : Oper) (j : Nat), ops[i]? = some o → i ≠ j → o.dst ≠ none → dstOf ops j ≠ o.dst
theorem Lin.mem {ops : Array Oper} {done rest : List Nat} (h : Lin ops done rest) : (∀ i, i < ops.size → i ∈ done ∨ i ∈ rest) ∧ rest.Nodup ∧ (∀ i ∈ rest, i ∉ done ∧ i < ops.size) := by
  induction h with
  | nil done hall => exact ⟨fun i hi => .inl (hall i hi), by simp, by simp⟩
  | cons done k rest hi hnd hp hl ih =>
    obtain ⟨h1, h2, h3⟩ := ih
    refine ⟨fun i hi => ?_, List.nodup_cons.2 ⟨fun hk => (h3 k hk).1 (by simp), h2⟩, fun i hi' => ?_⟩
    · rcases h1 i hi with h | h
      · rcases List.mem_cons.1 h with rfl | h
        · exact .inr (by simp)
        · exact .inl h
      · exact .inr (by simp [h])
    · rcases List.mem_cons.1 hi' with rfl | h
      · exact ⟨hnd, hi⟩
      · exact ⟨fun hd => (h3 i h).1 (by simp [hd]), (h3 i h).2⟩
end Go.Vc
/- Part Z: iterators: what a function does that yields a list, with any client. -/
namespace Go.Vc
open Go.RowKit
variable {P : Program} {n0 : Nat} {r : Option Nat}
/-- A state that forgets slots and blocks, and keeps its next name. -/
theorem ent_keep {st st' : St} (hn : st'.n = st.n) (hx : st'.nx = st.nx) (hd : st'.d = st.d) (hs : ∀ t sv, lk t st'.s = some sv → lk t st.s = some sv) (hh : ∀ i b, lk i st'.h = some b → lk i st.h = some b) : Ent n0 st st' :=
  fun I φ a w hR hn0 => by
    refine ⟨I, φ, ⟨by rw [hx]; exact hR.rh.sub hh, by rw [hn]; exact hR.size, fun t sv ht => hR.slot t sv (hs t sv ht), by rw [hd]; exact hR.dlen, by rw [hd]; exact hR.dmark⟩, by rw [hx]; exact hn0,
      ⟨rfl, rfl, rfl, Nat.le_refl _, Nat.le_refl _, fun _ _ h => h, fun _ _ _ => rfl, fun b hb => .inl (mut_sub hh hb), fun _ _ h => .inl h, fun _ _ _ _ h => h, fun _ _ _ => rfl, fun i _ hl => ?_⟩⟩
    cases hx : lk i st'.h with
    | none => rfl
    | some b => rw [hh i b hx] at hl; cases hl
theorem PC.weak {f args nx Hs H} {Q : SV → Nat → List (Nat × ABlk) → Prop} (hsub : ∀ i b, lk i Hs = some b → lk i H = some b) (h : PC P f args nx Hs Q) : PC P f args nx H Q :=
  (h.frame (own := []) (by simpa using hsub) (fun i b h => by cases h)).mono fun sv nx' H2 ⟨H', e, hq, _⟩ => by
    have e : H2 = H' := by simpa using e
    subst e
    exact hq
theorem YC.weak {y args nx Hs H} {Q : SV → Nat → List (Nat × ABlk) → Prop} (hsub : ∀ i b, lk i Hs = some b → lk i H = some b) (h : YC P y args nx Hs Q) : YC P y args nx H Q :=
  (h.frame (own := []) (by simpa using hsub) (fun i b h => by cases h)).mono fun sv nx' H2 ⟨H', e, hq, _⟩ => by
    have e : H2 = H' := by simpa using e
    subst e
    exact hq
/-- What a call leaves may be forgotten. -/
theorem PC.drop {f args nx H} {Q Q' : SV → Nat → List (Nat × ABlk) → Prop} (h : PC P f args nx H Q) (hq : ∀ sv nx' H2, Q sv nx' H2 → ∃ H', Q' sv nx' H' ∧ ∀ i b, lk i H' = some b → lk i H2 = some b) : PC P f args nx H Q' :=
  ⟨h.1, fun I φ w vs a b c => (h.2 I φ w vs a b c).mono fun _ _ ⟨v, sv, nx', H2, I', φ', e, q, hR, hn, hs, hev⟩ => by
    obtain ⟨H', q', hsub⟩ := hq _ _ _ q
    refine ⟨v, sv, nx', H', I', φ', e, q', hR.sub hsub, hn, hs, ⟨hev.os, hev.tape, hev.output, hev.drawn, hev.size, hev.imm, hev.frm, fun b hb => hev.mprov b (mut_sub hsub hb), hev.iprov, hev.phi, hev.phiF, fun i hi hl => ?_⟩⟩
    have := hev.keep i hi hl
    cases hx : lk i H' with
    | none => rfl
    | some b => rw [hsub i b hx] at this; cases this⟩
def disj (own H : List (Nat × ABlk)) : Prop := ∀ i b, lk i own = some b → lk i H = none
/-- A call of yield in a run. -/
theorem pwl_yieldk {ops : Array Oper} {o : Oper} {l : List Oper} {K : St → Prop} {st : St} {c : Call} {x : Operand} {y : Nat} {svs : List SV} {own Hs : List (Nat × ABlk)} {Qr : SV → Nat → List (Nat × ABlk) → Prop}
    (hg : gate ops st o = some true) (ho : o.op = .call c) (hx : c.callee = .value x) (hv : st.ev x = some (.yld y)) (ha : st.evs c.args.toList = some svs) (hf : st.fits o.dst = true)
    (hh : st.h = own ++ Hs) (hd : disj own Hs) (hC : YC P y svs st.nx Hs Qr)
    (hK : ∀ sv nx' H', Qr sv nx' H' → st.nx ≤ nx' → disj own H' → PWl P n0 r ops l K (({ st with nx := nx', h := own ++ H' } : St).put o.dst sv)) : PWl P n0 r ops (o :: l) K st :=
  gate_true hg hf fun K' hK' => pwo_yield ho hx hv ha hf (by rw [hh]; exact hC.frame (fun _ _ h => h) hd) fun sv nx' H2 hown hnx => by
    obtain ⟨H', e, hq, hd'⟩ := hown
    subst e
    exact hK' _ (hK sv nx' H' hq hnx hd')
/-- A call of a closure in a run. -/
theorem pwl_callpk {ops : Array Oper} {o : Oper} {l : List Oper} {K : St → Prop} {st : St} {c : Call} {x : Operand} {f : Nat} {caps : List (Nat × Nat)} {svs : List SV} {own Hs : List (Nat × ABlk)} {Qr : SV → Nat → List (Nat × ABlk) → Prop}
    (hg : gate ops st o = some true) (ho : o.op = .call c) (hx : c.callee = .value x) (hv : st.ev x = some (.clos f caps)) (ha : st.evs c.args.toList = some svs) (hf : st.fits o.dst = true)
    (hsub : ∀ i b, lk i (own ++ Hs) = some b → lk i st.h = some b) (hd : disj own Hs) (hC : PC P f (svs ++ capRefs caps) st.nx Hs Qr)
    (hK : ∀ sv nx' H', Qr sv nx' H' → st.nx ≤ nx' → disj own H' → PWl P n0 r ops l K (({ st with nx := nx', h := own ++ H' } : St).put o.dst sv)) : PWl P n0 r ops (o :: l) K st :=
  gate_true hg hf fun K' hK' => pwo_callp ho hx hv ha hf (hC.frame hsub hd) fun sv nx' H2 hown hnx => by
    obtain ⟨H', e, hq, hd'⟩ := hown
    subst e
    exact hK' _ (hK sv nx' H' hq hnx hd')
/-! ### Iterators -/
/-- A client's step: on, or no further. -/
def ItQ (C D : List SV → Nat → List (Nat × ABlk) → Prop) (ys : List SV) (x : SV) (sv : SV) (nx' : Nat) (H' : List (Nat × ABlk)) : Prop :=
  (sv = .pv (.lit (.bool true)) ∧ C (ys ++ [x]) nx' H') ∨ (sv = .pv (.lit (.bool false)) ∧ D (ys ++ [x]) nx' H')
/-- The function with these captures yields the list, in memory of its own, to any client that keeps S. -/
def ItC (P : Program) (f : Nat) (caps : List (Nat × Nat)) (own : List (Nat × ABlk)) (S : List (Nat × ABlk) → Prop) (xs : List SV) : Prop :=
  ∀ (y nx : Nat) (H : List (Nat × ABlk)) (C D : List SV → Nat → List (Nat × ABlk) → Prop), (∀ ys nx H, C ys nx H → S H) →
    (∀ ys x zs, xs = ys ++ x :: zs → ∀ nx H, C ys nx H → YC P y [x] nx H (ItQ C D ys x)) → (∀ ys nx nx' H, C ys nx H → nx ≤ nx' → C ys nx' H) → disj own H → C [] nx H →
    PC P f (.yld y :: capRefs caps) nx (own ++ H) (fun _ nx' H' => C xs nx' H' ∨ ∃ ys, D ys nx' H')
/-- A loop over an iterator, at the outermost. -/
theorem pw_it_outer {g : Operand} {ps : Array Nat} {assign body : Code} {Q : Exit → St → Prop} {st : St} {gf : Nat} {caps : List (Nat × Nat)} {xs : List SV} {own Hc : List (Nat × ABlk)} {S : List (Nat × ABlk) → Prop}
    (hg : st.ev g = some (.clos gf caps)) (hIt : ItC P gf caps own S xs) (hsub : ∀ i b, lk i (own ++ Hc) = some b → lk i st.h = some b) (hdis : disj own Hc) (C D : List SV → Nat → List (Nat × ABlk) → Prop) (hS : ∀ ys nx H, C ys nx H → S H)
    (hstep : ∀ ys x zs, xs = ys ++ x :: zs → ∀ nx H, C ys nx H → YC P (st.nx + 1) [x] nx H (ItQ C D ys x)) (hmono : ∀ ys nx nx' H, C ys nx H → nx ≤ nx' → C ys nx' H)
    (h0 : C [] (st.nx + 2) ((st.nx + 1, .lrec st.n st.s .ready none ps assign body st.nx) :: (st.nx, .dfr true) :: Hc))
    (hend : ∀ sv nx' H', C xs nx' H' → RangeQ P n0 none st (st.nx + 1) ps assign body st.nx (st.nx :: st.d) Q sv nx' H')
    (hstop : ∀ ys sv nx' H', D ys nx' H' → RangeQ P n0 none st (st.nx + 1) ps assign body st.nx (st.nx :: st.d) Q sv nx' H') : PW P n0 none (.rangeFunc g ps assign body) Q st := by
  refine PW.dom fun hdom => pw_range_outer hg ?_
  have hlt : ∀ i b, lk i (own ++ Hc) = some b → i < st.nx := fun i b hl => hdom i b (hsub i b hl)
  have hown : ∀ i b, lk i own = some b → i < st.nx := fun i b hl => hlt i b (lk_append_left hl)
  have hd2 : disj own ((st.nx + 1, .lrec st.n st.s .ready none ps assign body st.nx) :: (st.nx, .dfr true) :: Hc) := fun i b hl => by
    have := hown i b hl
    simp only [lk]
    rw [if_neg (by omega), if_neg (by omega)]
    exact hdis i b hl
  refine PC.mono (PC.weak ?_ (hIt (st.nx + 1) (st.nx + 2) _ C D hS hstep hmono hd2 h0)) ?_
  · intro i b hl
    rcases lk_append_cases hl with h | ⟨hn, h⟩
    · have := hown i b h
      simp only [lk]
      rw [if_neg (by omega), if_neg (by omega)]
      exact hsub i b (lk_append_left h)
    · simp only [lk] at h ⊢
      split at h
      · rename_i e; rw [if_pos e]; exact h
      · rename_i e
        rw [if_neg e]
        split at h
        · rename_i e2; rw [if_pos e2]; exact h
        · rename_i e2
          rw [if_neg e2]
          exact hsub i b (by rw [lk_append_right hn]; exact h)
  · rintro sv nx' H' (h | ⟨ys, h⟩)
    · exact hend sv nx' H' h
    · exact hstop ys sv nx' H' h
/-- What lies behind an array's first elements is forgotten. -/
theorem ent_shrink {st : St} {i ta es g : Nat} {xs : List (List PV)} (m : Nat) (hl : lk i st.h = some (.arr ta es g false xs)) : Ent n0 st (st.upd i (.arr ta es g false (xs.take m))) := fun I φ a w hR hn => by
  obtain ⟨b0, bx, hb⟩ := hR.rh.blk _ _ hl
  have hB : Brel I φ w i (.arr ta es g false (xs.take m)) := by
    refine ⟨b0, fun x hx => bx x (List.mem_of_mem_take hx), ?_⟩
    rcases hb with ⟨h1, h2⟩ | ⟨b, c, vs, h1, h2, h3, h4, h5, h6, h7⟩
    · exact .inl ⟨h1, by rw [h2]; simp⟩
    · refine .inr ⟨b, c, vs, h1, h2, h3, by simp; omega, h5, fun k j p hp => ?_, h7⟩
      obtain ⟨y, hy, hj⟩ := Option.bind_eq_some_iff.1 hp
      refine h6 k j p (Option.bind_eq_some_iff.2 ⟨y, ?_, hj⟩)
      rw [List.getElem?_take] at hy
      split at hy
      · exact hy
      · cases hy
  have hmb : ∀ ys, mblk φ i (.arr ta es g false ys) = mblk φ i (.arr ta es g false xs) := fun ys => rfl
  have hlk : ∀ j blk, lk j (hset i (.arr ta es g false (xs.take m)) st.h) = some blk → (j = i ∧ blk = .arr ta es g false (xs.take m)) ∨ (j ≠ i ∧ lk j st.h = some blk) := fun j blk hj => by
    by_cases e : j = i
    · subst e
      rw [lk_hset_same hl] at hj
      injection hj with hj
      exact .inl ⟨rfl, hj.symm⟩
    · rw [lk_hset_other e] at hj
      exact .inr ⟨e, hj⟩
  have hold : ∀ j blk b, lk j (hset i (.arr ta es g false (xs.take m)) st.h) = some blk → mblk φ j blk = some b → ∃ blk', lk j st.h = some blk' ∧ mblk φ j blk' = some b := fun j blk b hj hm => by
    rcases hlk j blk hj with ⟨rfl, rfl⟩ | ⟨_, h⟩
    · exact ⟨_, hl, hm⟩
    · exact ⟨_, h, hm⟩
  refine ⟨I, φ, ⟨⟨hR.rh.ilt, hR.rh.dom, fun j blk hj => ?_, fun j blk g' x hj hx => ?_, fun j blk b hj hm => ?_, fun j k bj bk b hj hk h1 h2 => ?_⟩, hR.size, hR.slot, hR.dlen, hR.dmark⟩, hn,
    ⟨rfl, rfl, rfl, Nat.le_refl _, Nat.le_refl _, fun _ _ h => h, fun _ _ _ => rfl, fun b hb => ?_, fun _ _ h => .inl h, fun _ _ _ _ h => h, fun _ _ _ => rfl, fun j _ hj => ?_⟩⟩
  · rcases hlk j blk hj with ⟨rfl, rfl⟩ | ⟨_, h⟩
    · exact hB
    · exact hR.rh.blk j blk h
  · rcases hlk j blk hj with ⟨rfl, rfl⟩ | ⟨_, h⟩
    · exact (hR.rh.gen _ (.arr ta es g false xs) g' x hl hx : g' ≤ g)
    · exact hR.rh.gen j blk g' x h hx
  · obtain ⟨blk', h1, h2⟩ := hold j blk b hj hm
    exact hR.rh.mlt j blk' b h1 h2
  · obtain ⟨bj', g1, g2⟩ := hold j bj b hj h1
    obtain ⟨bk', g3, g4⟩ := hold k bk b hk h2
    exact hR.rh.inj j k bj' bk' b g1 g3 g2 g4
  · obtain ⟨j, blk, h1, h2⟩ := hb
    obtain ⟨blk', g1, g2⟩ := hold j blk b h1 h2
    exact .inl ⟨j, blk', g1, g2⟩
  · by_cases e : j = i
    · subst e; rw [hl] at hj; cases hj
    · show lk j (hset i _ st.h) = none
      rw [lk_hset_other e]
      exact hj
/-- A contract of the kit's, as a call in a run. -/
theorem callsIn_of_calls {f : FuncId} {args : Array Value} {w : World} {R' : Ending → World → Prop} (h : Calls P f args w R') : CallsIn (FW none) 0 P f args w R' := by
  have h2 := (callsIn_wide (n := 0)).2 h
  refine ⟨trivial, fun cs _ => ?_⟩
  obtain ⟨e, w', fr, r, s, x⟩ := h2.2 cs (room_wide _)
  refine ⟨e, w', fr, r, ?_, x⟩
  cases e with
  | returned v => exact StepsIn.mono (fun m hm g hg => by
      obtain ⟨a, b, c, d⟩ := hm g hg
      exact ⟨fun h => by simp [FW] at h, .inl trivial, fun _ _ => trivial, fun _ hd => by cases hd⟩) s
  | panicked chain => exact StepsIn.mono (fun m hm g hg => by
      obtain ⟨a, b, c, d⟩ := hm g hg
      exact ⟨fun h => by simp [FW] at h, .inl trivial, fun _ _ => trivial, fun _ hd => by cases hd⟩) s
  | outgrown => exact s
/-- The end of a function's body, in a heap: what is no more needed is forgotten, the marks are taken up. -/
theorem finP_end {fn : Func} {Q : SV → Nat → List (Nat × ABlk) → Prop} {st st1 : St} {nx : Nat} {e : Exit} {vs : List SV} {h : List (Nat × ABlk)} (he : e = .normal ∨ e = .ret) (hent : Ent nx st st1) (hs : shut st1.d st1.h = some h)
    (hr : resL P { st1 with h := h, d := [] } fn.results.toList = some vs) (hQ : Q (wrapRes (vs.map (cv h))) st1.nx h) : FinP P fn nx Q e st := ⟨he, st1, hent, h, hs, vs, hr, hQ⟩
end Go.Vc
/- Part Wb: results that are tuples. -/
namespace Go.Vc
open Go.RowKit
variable {P : Program} {n0 : Nat} {r : Option Nat}
theorem tup_rel {l m : List SV} (h : SLs l m) {I : Nat → Nat → Prop} {φ : Phi} {w : World} {v : Value} (hs : Srel I φ w (.tup l) v) : Srel I φ w (.tup m) v := by
  cases hs with
  | tup _ vs hl hall =>
    refine .tup m vs (hl.trans h.len) fun j sv u hj hu => ?_
    obtain ⟨p, hp, hpq⟩ := h.get j sv hj
    exact hpq.rel (hall j p u hp hu)
theorem SLs.constL {l m : List SV} (h : SLs l m) (hc : constL l = true) : constL m = true := by
  induction h with
  | nil => rfl
  | cons a _ ih =>
    simp only [Go.Vc.constL, Bool.and_eq_true] at hc ⊢
    exact ⟨a.const hc.1, ih hc.2⟩
/-- A tuple of results, each as good as wanted. -/
theorem CC.rest {f : Nat} {a m : List SV} (h : CC P f a (fun sv => ∃ l, sv = .tup l ∧ SLs l m)) : CC P f a (fun sv => sv = .tup m) :=
  ⟨h.1, fun I φ w vs h1 h2 h3 => (h.2 I φ w vs h1 h2 h3).mono fun e w' ⟨v, sv, nx', H', I', φ', e1, ⟨⟨l, e2, hl⟩, hc⟩, k1, k2, k3, k4⟩ => by
    subst e2
    exact ⟨v, .tup m, nx', H', I', φ', e1, ⟨rfl, hl.constL hc⟩, k1, k2, tup_rel hl k3, k4⟩⟩
theorem pc_of_pw' {f : Nat} {fn : Func} {c : Code} {args : List SV} {nx n : Nat} {H : List (Nat × ABlk)} {Q : SV → Nat → List (Nat × ABlk) → Prop} (hf : P.funcs[f]? = some fn) (hb : fn.body = some c) (he : Enters P f) (hnt : fn.ntmps = n) (hn : args.length ≤ n)
    (h : PW P nx none c (FinP P fn nx Q) { n := n, nx := nx, s := argSlots 0 args, h := H, d := [] }) : PC P f args nx H Q := pc_of_pw hf hb he (by omega) (by subst hnt; exact h)
theorem disj_sub {own H : List (Nat × ABlk)} (h : disj own H) : ∀ i b, lk i H = some b → lk i (own ++ H) = some b := fun i b hl => by
  cases hx : lk i own with
  | none => rw [lk_append_right hx]; exact hl
  | some c => rw [h i c hx] at hl; cases hl
theorem disj_ne {own H : List (Nat × ABlk)} (h : disj own H) {i j : Nat} {a b : ABlk} (hi : lk i own = some a) (hj : lk j H = some b) : ¬ i = j := fun e => by
  subst e
  rw [h i a hi] at hj
  cases hj
end Go.Vc
/- Part Zb: loops over iterators, with the loop's record in the client. -/
namespace Go.Vc
open Go.RowKit
variable {P : Program} {n0 : Nat} {r : Option Nat}
/-- Code may end in a state that says more than wanted. -/
theorem pw_entpost {c : Code} {Q : Exit → St → Prop} {st : St} (h : PW P n0 r c (fun e st => ∃ st', Ent n0 st st' ∧ Q e st') st) : PW P n0 r c Q st := fun I φ a w l hR hn hr hl =>
  wpIn_mono (h I φ a w l hR hn hr hl) fun e a' w' hp => by
    cases e with
    | normal => exact Kp.ent hp
    | exit i => exact Kp.ent hp
    | goto i => exact Kp.ent hp
    | ret => exact Kp.ent hp
    | panic ch => exact hp
    | outgrown => exact hp
theorem pws_it_outer {g : Operand} {ps : Array Nat} {assign body : Code} {l : List Code} {Q : Exit → St → Prop} {st : St} {gf : Nat} {caps : List (Nat × Nat)} {xs : List SV} {own Hc : List (Nat × ABlk)} {S : List (Nat × ABlk) → Prop}
    (C D : ABlk → List SV → Nat → List (Nat × ABlk) → Prop)
    (hg : st.ev g = some (.clos gf caps)) (hIt : ItC P gf caps own S xs) (hsub : ∀ i b, lk i (own ++ Hc) = some b → lk i st.h = some b) (hdis : disj own Hc) (hS : ∀ ys nx H, C (.lrec st.n st.s .ready none ps assign body st.nx) ys nx H → S H)
    (hstep : ∀ ys x zs, xs = ys ++ x :: zs → ∀ nx H, C (.lrec st.n st.s .ready none ps assign body st.nx) ys nx H → YC P (st.nx + 1) [x] nx H (ItQ (C (.lrec st.n st.s .ready none ps assign body st.nx)) (D (.lrec st.n st.s .ready none ps assign body st.nx)) ys x))
    (hmono : ∀ ys nx nx' H, C (.lrec st.n st.s .ready none ps assign body st.nx) ys nx H → nx ≤ nx' → C (.lrec st.n st.s .ready none ps assign body st.nx) ys nx' H)
    (h0 : C (.lrec st.n st.s .ready none ps assign body st.nx) [] (st.nx + 2) ((st.nx + 1, .lrec st.n st.s .ready none ps assign body st.nx) :: (st.nx, .dfr true) :: Hc))
    (hend : ∀ sv nx' H', C (.lrec st.n st.s .ready none ps assign body st.nx) xs nx' H' → RangeQ P n0 none st (st.nx + 1) ps assign body st.nx (st.nx :: st.d) (thenQ (PWs P n0 none l Q) Q) sv nx' H')
    (hstop : ∀ ys sv nx' H', D (.lrec st.n st.s .ready none ps assign body st.nx) ys nx' H' → RangeQ P n0 none st (st.nx + 1) ps assign body st.nx (st.nx :: st.d) (thenQ (PWs P n0 none l Q) Q) sv nx' H') : PWs P n0 none (.rangeFunc g ps assign body :: l) Q st :=
  pw_it_outer hg hIt hsub hdis _ _ hS hstep hmono h0 hend hstop
/-- A call of a closure, in a drawn region. -/
theorem pwd_callpk {ops : Array Oper} {eff c c' ls : List Nat} {i : Nat} {K : St → Prop} {st : St} {o : Oper} {cl : Call} {x : Operand} {f : Nat} {caps : List (Nat × Nat)} {svs : List SV} {own Hs : List (Nat × ABlk)} {Qr : SV → Nat → List (Nat × ABlk) → Prop}
    (he : eff.contains i = true) (ho : ops[i]? = some o) (hs : stabs P ops st c) (hg : gate ops st o = some true) (hc : (c.filter fun j => !(reach ops 6 (predsOf ops i)).contains j) = c')
    (hop : o.op = .call cl) (hx : cl.callee = .value x) (hv : st.ev x = some (.clos f caps)) (ha : st.evs cl.args.toList = some svs) (hf : st.fits o.dst = true)
    (hsub : ∀ i b, lk i (own ++ Hs) = some b → lk i st.h = some b) (hd : disj own Hs) (hC : PC P f (svs ++ capRefs caps) st.nx Hs Qr)
    (hK : ∀ sv nx' H', Qr sv nx' H' → st.nx ≤ nx' → disj own H' → PWd P n0 r ops eff K ls c' (({ st with nx := nx', h := own ++ H' } : St).put o.dst sv)) : PWd P n0 r ops eff K (i :: ls) c st :=
  pwd_eff he ho hs hg hc (pwo_callp hop hx hv ha hf (hC.frame hsub hd) fun sv nx' H2 hown hnx => by
    obtain ⟨H', e, hq, hd'⟩ := hown
    subst e
    exact hK sv nx' H' hq hnx hd')
theorem pwd_yieldk {ops : Array Oper} {eff c c' ls : List Nat} {i : Nat} {K : St → Prop} {st : St} {o : Oper} {cl : Call} {x : Operand} {y : Nat} {svs : List SV} {own Hs : List (Nat × ABlk)} {Qr : SV → Nat → List (Nat × ABlk) → Prop}
    (he : eff.contains i = true) (ho : ops[i]? = some o) (hs : stabs P ops st c) (hg : gate ops st o = some true) (hc : (c.filter fun j => !(reach ops 6 (predsOf ops i)).contains j) = c')
    (hop : o.op = .call cl) (hx : cl.callee = .value x) (hv : st.ev x = some (.yld y)) (ha : st.evs cl.args.toList = some svs) (hf : st.fits o.dst = true)
    (hh : st.h = own ++ Hs) (hd : disj own Hs) (hC : YC P y svs st.nx Hs Qr)
    (hK : ∀ sv nx' H', Qr sv nx' H' → st.nx ≤ nx' → disj own H' → PWd P n0 r ops eff K ls c' (({ st with nx := nx', h := own ++ H' } : St).put o.dst sv)) : PWd P n0 r ops eff K (i :: ls) c st :=
  pwd_eff he ho hs hg hc (pwo_yield hop hx hv ha hf (by rw [hh]; exact hC.frame (fun _ _ h => h) hd) fun sv nx' H2 hown hnx => by
    obtain ⟨H', e, hq, hd'⟩ := hown
    subst e
    exact hK sv nx' H' hq hnx hd')
theorem ent_droph {n nx i : Nat} {s : List (Nat × SV)} {b : ABlk} {H : List (Nat × ABlk)} {d : List Nat} (h : lk i H = none) : Ent n0 { n := n, nx := nx, s := s, h := (i, b) :: H, d := d } { n := n, nx := nx, s := s, h := H, d := d } :=
  ent_keep rfl rfl rfl (fun _ _ h => h) fun j c hj => by
    simp only [lk]
    split
    · rename_i e
      subst e
      rw [h] at hj
      cases hj
    · exact hj
end Go.Vc
/- From the statement's reading of the arguments to the states of the logic; and from a contract to what the row asks. -/
namespace Go.Vc
open Go.RowKit Go.ChangeShapes
variable {P : Program}
def RepL (I : Nat → Nat → Prop) (w : World) (p : List PV) (cs : List Value) : Prop := p.length = cs.length ∧ ∀ (j : Nat) q u, p[j]? = some q → cs[j]? = some u → Rep I w q u
def Olds (w : World) : Nat → Nat → Prop := fun b _ => b < w.heap.size
/-- What is read at a type are cells of this make. -/
def Rd (P : Program) (t : TypeId) (es : Nat) (T : List PV → Prop) : Prop :=
  ∀ (H : Type) (enc : TypeId × Value → H) (w : World) (base : Nat) (sp : Nat → Bool) (held : Bool) (fuel : Nat) (cs : List Value) (x : DataW H × List MemPlace), DataW.trod enc P w base sp held fuel t cs = some x → cs.length = es ∧ ∃ p, T p ∧ RepL (Olds w) w p cs
theorem Rd.mono {t : TypeId} {es : Nat} {T T' : List PV → Prop} (h : Rd P t es T) (hT : ∀ p, T p → T' p) : Rd P t es T' := fun H enc w base sp held fuel cs x hx => by
  obtain ⟨h1, p, h2, h3⟩ := h H enc w base sp held fuel cs x hx
  exact ⟨h1, p, hT p h2, h3⟩
theorem repL_one {I : Nat → Nat → Prop} {w : World} {q : PV} {u : Value} (h : Rep I w q u) : RepL I w [q] [u] := ⟨rfl, fun j a b ha hb => by
  cases j with
  | zero => simp at ha hb; subst ha hb; exact h
  | succ j => simp at ha⟩
theorem repL_append {I : Nat → Nat → Prop} {w : World} {p q : List PV} {cs ds : List Value} (h : RepL I w p cs) (k : RepL I w q ds) : RepL I w (p ++ q) (cs ++ ds) := ⟨by simp [h.1, k.1], fun j a b ha hb => by
  by_cases e : j < p.length
  · rw [List.getElem?_append_left e] at ha
    rw [List.getElem?_append_left (by rw [← h.1]; exact e)] at hb
    exact h.2 j a b ha hb
  · rw [List.getElem?_append_right (by omega)] at ha
    rw [List.getElem?_append_right (by rw [← h.1]; omega), ← h.1] at hb
    exact k.2 _ a b ha hb⟩
theorem Rd.int {t : TypeId} {k : IntKind} (ht : P.underlying t = some (.int k)) : Rd P t 1 (fun p => ∃ n : Int, p = [.lit (.int k n)] ∧ (Lit.int k n).wf = true) := fun H enc w base sp held fuel cs x h => by
  obtain ⟨n, rfl, _, hw⟩ := DataW.trod_int ht h
  exact ⟨rfl, _, ⟨n, rfl, hw⟩, repL_one (.lit _ rfl)⟩
theorem Rd.str {t : TypeId} (ht : P.underlying t = some .string) : Rd P t 1 (fun p => ∃ s : ByteArray, p = [.lit (.string s)]) := fun H enc w base sp held fuel cs x h => by
  obtain ⟨n, rfl, _, hw⟩ := DataW.trod_string ht h
  exact ⟨rfl, _, ⟨n, rfl⟩, repL_one (.lit _ rfl)⟩
theorem Rd.bool {t : TypeId} (ht : P.underlying t = some .bool) : Rd P t 1 (fun p => ∃ s : Bool, p = [.lit (.bool s)]) := fun H enc w base sp held fuel cs x h => by
  obtain ⟨n, rfl, _⟩ := DataW.trod_bool ht h
  exact ⟨rfl, _, ⟨n, rfl⟩, repL_one (.lit _ rfl)⟩
theorem pick_list {α : Type} {Φ : Nat → α → Prop} : ∀ n : Nat, (∀ i, i < n → ∃ p, Φ i p) → ∃ xs : List α, xs.length = n ∧ ∀ (i : Nat) p, xs[i]? = some p → Φ i p
  | 0, _ => ⟨[], rfl, by simp⟩
  | n + 1, h => by
    obtain ⟨xs, h1, h2⟩ := pick_list n fun i hi => h i (by omega)
    obtain ⟨p, hp⟩ := h n (by omega)
    refine ⟨xs ++ [p], by simp [h1], fun i q hq => ?_⟩
    by_cases e : i < n
    · rw [List.getElem?_append_left (by omega)] at hq
      exact h2 i q hq
    · rw [List.getElem?_append_right (by omega)] at hq
      by_cases e2 : i = n
      · subst e2
        simp [h1] at hq
        exact hq ▸ hp
      · have : i - xs.length ≠ 0 := by omega
        obtain ⟨m, hm⟩ : ∃ m, i - xs.length = m + 1 := ⟨i - xs.length - 1, by omega⟩
        rw [hm] at hq
        simp at hq
theorem get2_some {xs : List (List PV)} {i j : Nat} {p : PV} (h : get2 xs i j = some p) : ∃ x, xs[i]? = some x ∧ x[j]? = some p := by
  unfold get2 at h
  exact Option.bind_eq_some_iff.1 h
theorem Rd.slice {t e : TypeId} {es : Nat} {T : List PV → Prop} (ht : P.underlying t = some (.slice e)) (hc : P.cellsOf e = es) (h0 : 0 < es) (he : Rd P e es T) : Rd P t 1 (fun p => ∃ xs, p = [.sl es xs] ∧ ∀ x ∈ xs, T x) := by
  intro H enc w base sp held fuel cs x h
  rcases DataW.trod_slice ht h with ⟨rfl, _⟩ | ⟨a, len, cap, elems, rest, n, rfl, rfl, _, hb, hlc, hcm, hel, hi, _, _⟩
  · exact ⟨rfl, _, ⟨[], rfl, by simp⟩, repL_one (Rep.nil es)⟩
  · obtain ⟨xs, hx1, hx2⟩ := pick_list (Φ := fun i p => T p ∧ p.length = es ∧ ∃ cs, w.cells? base (a.add (i * es)) es = some cs ∧ RepL (Olds w) w p cs) len fun i hl => by
      have h1 := hi i hl
      have h2 : elems[i]? = some elems[i] := List.getElem?_eq_getElem (by omega)
      rw [h2, hc] at h1
      obtain ⟨cs', hcs, htr⟩ := Option.bind_eq_some_iff.1 h1
      obtain ⟨hl', p, hp, hr⟩ := he _ _ _ _ _ _ _ _ _ htr
      exact ⟨p, hp, hr.1.trans hl', cs', hcs, hr⟩
    have key : ∀ i j p, get2 xs i j = some p → ∃ u, w.cell? (a.add (i * es + j)) = some u ∧ Rep (Olds w) w p u := fun i j p hg => by
      obtain ⟨y, hy, hj⟩ := get2_some hg
      obtain ⟨_, hyl, cs', hcs, hr⟩ := hx2 i y hy
      obtain ⟨_, k2, k3⟩ := World.cells?_some hcs
      have hjl : j < y.length := (List.getElem?_eq_some_iff.1 hj).1
      have hj2 : j < cs'.length := by omega
      have h4 := k3 j (by omega)
      rw [Addr.add_add, List.getElem?_eq_getElem hj2] at h4
      exact ⟨_, h4, hr.2 j p _ hj (List.getElem?_eq_getElem hj2)⟩
    refine ⟨rfl, _, ⟨xs, rfl, fun x hx => ?_⟩, repL_one (.sl es xs (some a) len cap (fun i j => (w.cell? (a.add (i * es + j))).getD undef) hx1.symm hlc hcm (fun hn => ⟨a, rfl, ?_⟩) (fun x hx => ?_) (fun ad i j p e hg => ?_) fun i j p hg => ?_)⟩
    · obtain ⟨i, hi⟩ := List.mem_iff_getElem?.1 hx
      exact (hx2 i x hi).1
    · obtain ⟨_, _, cs', hcs, _⟩ := hx2 0 xs[0] (List.getElem?_eq_getElem (by omega))
      have := World.cells?_block hcs h0
      rw [block_add] at this
      exact this
    · obtain ⟨i, hi⟩ := List.mem_iff_getElem?.1 hx
      exact (hx2 i x hi).2.1
    · cases e
      obtain ⟨u, hu, _⟩ := key i j p hg
      rw [hu]
      rfl
    · obtain ⟨u, hu, hr⟩ := key i j p hg
      rw [hu]
      exact hr
/-- The fields of a struct, in order. -/
def FT (P : Program) : List Field → List (Nat × (List PV → Prop)) → Nat → Prop
  | [], [], _ => True
  | f :: fs, q :: L, off => f.offset = off ∧ P.cellsOf f.type = q.1 ∧ Rd P f.type q.1 q.2 ∧ FT P fs L (off + q.1)
  | _, _, _ => False
def CatT : List (Nat × (List PV → Prop)) → List PV → Prop
  | [], p => p = []
  | x :: L, p => ∃ q r, p = q ++ r ∧ q.length = x.1 ∧ x.2 q ∧ CatT L r
theorem ft_rd {H : Type} {enc : TypeId × Value → H} {w : World} {base : Nat} {sp : Nat → Bool} {held : Bool} {n : Nat} : ∀ (fs : List Field) (L : List (Nat × (List PV → Prop))) (off : Nat) (cs : List Value), FT P fs L off → off + (L.map (·.1)).sum = cs.length →
    (∀ (i : Nat) f, fs[i]? = some f → ∃ y, DataW.trod enc P w base sp held n f.type ((cs.drop f.offset).take (P.cellsOf f.type)) = some y) → ∃ p, CatT L p ∧ RepL (Olds w) w p (cs.drop off)
  | [], [], off, cs, _, hl, _ => ⟨[], rfl, by
    have : cs.drop off = [] := List.drop_of_length_le (by simp at hl; omega)
    rw [this]
    exact ⟨rfl, by simp⟩⟩
  | f :: fs, q :: L, off, cs, h, hl, hr => by
    obtain ⟨h1, h2, h3, h4⟩ := h
    obtain ⟨y, hy⟩ := hr 0 f rfl
    rw [h1, h2] at hy
    obtain ⟨hle, p, hp, hpr⟩ := h3 _ _ _ _ _ _ _ _ _ hy
    obtain ⟨q', hq, hqr⟩ := ft_rd fs L (off + q.1) cs h4 (by simp at hl; omega) fun i f hf => hr (i + 1) f (by simpa using hf)
    refine ⟨p ++ q', ⟨p, q', rfl, hpr.1.trans hle, hp, hq⟩, ?_⟩
    have e : cs.drop off = (cs.drop off).take q.1 ++ cs.drop (off + q.1) := by
      conv => lhs; rw [← List.take_append_drop q.1 (cs.drop off)]
      rw [List.drop_drop]
    rw [e]
    exact repL_append hpr hqr
  | [], _ :: _, _, _, h, _, _ => h.elim
  | _ :: _, [], _, _, h, _, _ => h.elim
theorem Rd.struct {t : TypeId} {fs : Array Field} {es : Nat} (L : List (Nat × (List PV → Prop))) (ht : P.underlying t = some (.struct fs)) (hc : P.cellsOf t = es) (hs : (L.map (·.1)).sum = es) (hF : FT P fs.toList L 0) : Rd P t es (CatT L) := by
  intro H enc w base sp held fuel cs x h
  obtain ⟨xs, n, rfl, rfl, hl, hxl, hf⟩ := DataW.trod_struct ht h
  obtain ⟨p, h1, h2⟩ := ft_rd (enc := enc) (w := w) (base := base) (sp := sp) (held := held) (n := n) fs.toList L 0 cs hF (by omega) fun i f hi => by
    have hi' : fs[i]? = some f := by simpa using hi
    have hlt : i < xs.length := by
      have := (Array.getElem?_eq_some_iff.1 hi').1
      omega
    exact ⟨xs[i], by rw [hf i f hi']; exact List.getElem?_eq_getElem hlt⟩
  exact ⟨hl.trans hc, p, h1, by simpa using h2⟩
theorem arg_slice {H : Type} {enc : TypeId × Value → H} {w : World} {base : Nat} {sp : Nat → Bool} {held : Bool} {r : Reach} {b0 : Nat} {t e : TypeId} {es : Nat} {T : List PV → Prop} {v : Value} {d : DataW H} {ps : List MemPlace}
    (ht : P.underlying t = some (.slice e)) (hc : P.cellsOf e = es) (h0 : 0 < es) (he : Rd P e es T) (hval : Value.okWide P w r b0 t v) (hd : DataW.Trod enc P w base sp held t v d ps) : ∃ xs, (∀ x ∈ xs, T x) ∧ Rep (Olds w) w (.sl es xs) v := by
  have hv : v.cells.toList = [v] := by
    unfold Value.okWide at hval
    simp only [ht] at hval
    unfold Cell.okWide Cell.ok at hval
    simp only [ht] at hval
    cases v <;> simp_all [Value.cells]
  obtain ⟨fuel, hf⟩ := hd
  rw [hv] at hf
  obtain ⟨_, p, ⟨xs, rfl, hT⟩, hr⟩ := Rd.slice ht hc h0 he _ _ _ _ _ _ _ _ _ hf
  exact ⟨xs, hT, hr.2 0 _ _ rfl rfl⟩
/-- A contract over data is a run of the machine: a result, and nothing that was there has turned. -/
theorem CC.calls {f : Nat} {svs : List SV} {Q : SV → Prop} (h : CC P f svs Q) {args : Array Value} {W : World} (hl : args.toList.length = svs.length)
    (hs : ∀ (j : Nat) sv u, svs[j]? = some sv → args.toList[j]? = some u → Srel (Olds W) (fun _ _ => none) W sv u) :
    Calls P f args W fun e W' => ∃ v sv I φ, e = .returned v ∧ Q sv ∧ sv.const = true ∧ Srel I φ W' sv v ∧ Below W.heap.size W W' := by
  have := h.2 (Olds W) (fun _ _ => none) W args.toList (rh_empty fun _ _ h => h) hl hs
  refine CallsIn.calls (this.mono ?_) (fun k => by simp [Fence.room, FW])
  rintro e W' ⟨v, sv, nx', H', I', φ', rfl, ⟨hQ, hc⟩, hR, _, hsr, hev⟩
  exact ⟨v, sv, I', φ', rfl, hQ, hc, hsr, ⟨hev.os, hev.tape, hev.output, hev.size, fun k hk => hev.frm k hk fun ⟨i, blk, hl, _⟩ => by cases hl⟩⟩
section
variable {H : Type} {enc : TypeId × Value → H}
theorem post_of_below {f : Func} {s : ChangeSpec} {apart fresh handsOn again : Bool} {W W' : World} {args : Array Value} {v : Value} {ds gs : List (DataW H)} {before pa pv : List MemPlace}
    (hW : DataW.Whole enc P f.params.toList s.vars apart W args.toList ds gs before)
    (hres : ∀ (b : Nat) (sp : Nat → Bool) (hd : Bool), DataW.TrodAll enc P W' b sp hd f.resultTypes.toList (v.resultList f.resultTypes.size) (s.fn H (ds ++ gs)).results [])
    (hargs : ∀ sp : Nat → Bool, (∀ p ∈ before, sp p.block = true) → DataW.TrodAll enc P W' 0 sp true f.params.toList args.toList (s.fn H (ds ++ gs)).args pa)
    (hvars : ∀ sp : Nat → Bool, (∀ p ∈ before, sp p.block = true) → DataW.TrodVars enc P W' sp s.vars (s.fn H (ds ++ gs)).vars pv)
    (hps : before = pa ++ pv) (hb : Below W.heap.size W W')
    (hok : ∀ (j : Nat) (t : TypeId) (r : Value), f.resultTypes[j]? = some t → (v.resultList f.resultTypes.size)[j]? = some r → Value.okWide P W' .any 0 t r) :
    s.post enc P f apart fresh handsOn again W args v W' := by
  have hold : ∀ p ∈ before, (fun b => decide (b < W.heap.size)) p.block = true := fun p hp => by simpa using hW.lt p hp
  refine ⟨ds, gs, before, [], pa, pv, hW, hres _ _ _, hargs _ hold, hvars _ hold, hb.frame _, fun _ => ?_⟩
  have hlt := hW.lt
  obtain ⟨_, _, _, _, _, hz, hn⟩ := hW
  refine ⟨hok, _, _, ([] ++ pa) ++ pv, ⟨[] ++ pa, pv, trodAll_append (hargs _ (fun _ _ => rfl)) (hres _ _ _), hvars _ (fun _ _ => rfl), rfl, ?_, ?_⟩, ?_⟩
  · intro b off hp
    have hp' : MemPlace.cell b off ∈ before := by rw [hps]; simpa using hp
    rw [hb.frozen (hlt _ hp')]
    exact hz b off hp'
  · intro ha
    have := hn ha
    rw [hps] at this
    simpa using this
  · intro p hp _
    rw [hps]
    simpa using hp
/-- All arguments read as before. -/
theorem trodAll_below (hl : laidOutB P = true) {W W' : World} (hb : Below W.heap.size W W') {sp' : Nat → Bool} : ∀ {ts : List TypeId} {vs : List Value} {ds : List (DataW H)} {ps : List MemPlace}, (ts.all fun t => P.readableRec t && decide (t < P.types.size)) = true →
    DataW.TrodAll enc P W 0 (fun _ => true) true ts vs ds ps → (∀ x ∈ ps, x.block < W.heap.size) → (∀ x ∈ ps, sp' x.block = true) → DataW.TrodAll enc P W' 0 sp' true ts vs ds ps
  | [], vs, ds, ps, _, h, _, _ => by
    obtain ⟨rfl, rfl, rfl⟩ := trodAll_nil h
    exact trodAll_mk0
  | t :: ts, vs, ds, ps, hr, h, hlt, hs => by
    obtain ⟨v, vs1, d, ds1, a, b, rfl, rfl, rfl, h1, h2⟩ := trodAll_cons h
    simp only [List.all_cons, Bool.and_eq_true, decide_eq_true_eq] at hr
    exact ⟨a, b, WideElems.Trod_stays hl hr.1.1 hr.1.2 h1 (fun x hx => hb.same (hlt x (by simp [hx]))) (fun x hx => hs x (by simp [hx])), trodAll_below hl hb (by simpa using hr.2) h2 (fun x hx => hlt x (by simp [hx])) (fun x hx => hs x (by simp [hx])), rfl⟩
end
end Go.Vc
/- A call that is lent arrays of one's own and hands back data of other element sizes: so none of the lent memory. -/
namespace Go.Vc
open Go.RowKit
variable {P : Program} {n0 : Nat} {r : Option Nat}
inductive Av (E : Nat → Prop) : PV → Prop where
  | lit (v : Value) : Av E (.lit v)
  | sl (es : Nat) (xs : List (List PV)) (h : ¬ E es) (hx : ∀ x ∈ xs, ∀ p ∈ x, Av E p) : Av E (.sl es xs)
theorem Rep.avoid {E : Nat → Prop} {I I' : Nat → Nat → Prop} {w : World} {p : PV} {v : Value} (h : Rep I w p v) (hI : ∀ b κ, I b κ → ¬ E κ → I' b κ) : Av E p → Rep I' w p v := by
  induction h with
  | lit v h => exact fun _ => .lit v h
  | sl es xs A n c u hn hc hmax hA hes hcell hrep ih =>
    intro ha
    cases ha with
    | sl _ _ he hx =>
      refine .sl es xs A n c u hn hc hmax (fun h => ?_) hes hcell fun i j p hp => ih i j p hp ?_
      · obtain ⟨ad, e, h1⟩ := hA h
        exact ⟨ad, e, hI _ _ h1 he⟩
      · obtain ⟨x, h1, h2⟩ := Option.bind_eq_some_iff.1 (show (xs[i]?).bind (·[j]?) = some p from hp)
        exact hx x (List.mem_of_getElem? h1) p (List.mem_of_getElem? h2)
inductive SAv (E : Nat → Prop) : SV → Prop where
  | pv (p : PV) (h : Av E p) : SAv E (.pv p)
  | agg (cs : List PV) (h : ∀ p ∈ cs, Av E p) : SAv E (.agg cs)
  | tup (svs : List SV) (h : ∀ sv ∈ svs, SAv E sv) : SAv E (.tup svs)
theorem Srel.avoid {E : Nat → Prop} {I I' : Nat → Nat → Prop} {φ φ' : Phi} {w : World} {sv : SV} {v : Value} (h : Srel I φ w sv v) (hI : ∀ b κ, I b κ → ¬ E κ → I' b κ) : SAv E sv → Srel I' φ' w sv v := by
  induction h with
  | pv p v h => intro ha; cases ha with | pv _ ha => exact .pv p v (h.avoid hI ha)
  | agg cs vs hl h => intro ha; cases ha with | agg _ ha => exact .agg cs vs hl fun j p u hp hu => (h j p u hp hu).avoid hI (ha p (List.mem_of_getElem? hp))
  | tup svs vs hl h ih => intro ha; cases ha with | tup _ ha => exact .tup svs vs hl fun j sv u hs hu => ih j sv u hs hu (ha sv (List.mem_of_getElem? hs))
  | _ => intro ha; cases ha
theorem bor_okE {E : Nat → Prop} {I φ st a w} (h : R I φ st a w) {sv sv' : SV} {v : Value} (hs : Srel I φ w sv v) (hE : ∀ es id g off len, sv = .loc es id g off len → E es) (hb : bor st.h true sv = some sv') :
    Srel (fun b κ => I b κ ∨ (E κ ∧ MutK φ st.h b κ)) φ w sv' v ∧ sv'.const = true := by
  have up : ∀ {sv v}, Srel I φ w sv v → Srel (fun b κ => I b κ ∨ (E κ ∧ MutK φ st.h b κ)) φ w sv v := fun h => h.mono (fun _ _ _ => rfl) (fun _ _ h => .inl h) fun _ _ _ h => h
  cases sv with
  | loc es id g off len =>
    have he := hE _ _ _ _ _ rfl
    simp only [bor] at hb
    split at hb
    · rename_i t es' g' frz xs hl
      split at hb
      · rename_i hc
        obtain ⟨rfl, rfl, hle, hf⟩ := hc
        injection hb with hb
        subst hb
        refine ⟨.pv _ _ (loc_rep (h.rh.blk _ _ hl) (fun _ _ h => .inl h) (fun b c hφ => ?_) hs rfl hle), rfl⟩
        cases frz with
        | true =>
          obtain ⟨_, _, hb⟩ := h.rh.blk _ _ hl
          rcases hb with ⟨h1, _⟩ | ⟨b', c', vs, h1, _, _, _, _, _, h7⟩
          · rw [h1] at hφ; cases hφ
          · rw [h1] at hφ; cases hφ; exact .inl (h7 rfl)
        | false => exact .inr ⟨he, id, _, _, _, _, hl, by simp [mblk, hφ]⟩
      · cases hb
    · cases hb
  | pv p => simp only [bor, Option.some.injEq] at hb; subst hb; exact ⟨up hs, rfl⟩
  | agg cs => simp only [bor, Option.some.injEq] at hb; subst hb; exact ⟨up hs, rfl⟩
  | cref cs => simp only [bor, Option.some.injEq] at hb; subst hb; exact ⟨up hs, rfl⟩
  | clos f caps =>
    cases caps with
    | nil => simp only [bor, Option.some.injEq] at hb; subst hb; exact ⟨up hs, rfl⟩
    | cons => cases hb
  | _ => cases hb
theorem bors_okE {E : Nat → Prop} {I φ st a w} (h : R I φ st a w) : ∀ {svs cs : List SV} {us : List Value}, bors st.h true svs = some cs → (∀ es id g off len, SV.loc es id g off len ∈ svs → E es) → (∀ (j : Nat) sv u, svs[j]? = some sv → us[j]? = some u → Srel I φ w sv u) →
    cs.length = svs.length ∧ ∀ (j : Nat) sv u, cs[j]? = some sv → us[j]? = some u → Srel (fun b κ => I b κ ∨ (E κ ∧ MutK φ st.h b κ)) φ w sv u ∧ sv.const = true
  | [], cs, us, hb, _, _ => by
    simp only [bors, Option.some.injEq] at hb
    subst hb
    exact ⟨rfl, fun j sv u hj => by simp at hj⟩
  | x :: l, cs, us, hb, hE, hs => by
    simp only [bors] at hb
    split at hb
    · rename_i v vs h1 h2
      injection hb with hb
      subst hb
      obtain ⟨k1, k2⟩ := bors_okE h (us := us.tail) h2 (fun es id g off len hm => hE es id g off len (List.mem_cons_of_mem _ hm)) fun j sv u hj hu => hs (j + 1) sv u (by simpa using hj) (by cases us <;> simp_all)
      refine ⟨by simp [k1], fun j sv u hj hu => ?_⟩
      cases j with
      | zero =>
        simp only [List.getElem?_cons_zero, Option.some.injEq] at hj
        subst hj
        exact bor_okE h (hs 0 x u rfl hu) (fun es id g off len e => hE es id g off len (by rw [e]; simp)) h1
      | succ j => exact k2 j sv u (by simpa using hj) (by cases us <;> simp_all)
    · cases hb
theorem pwo_callx {o : Oper} {c : Call} {x : Operand} {f : Nat} {svs cs : List SV} {st : St} {K : St → Prop} (E : Nat → Prop) {Qr : SV → Prop}
    (ho : o.op = .call c) (hx : c.callee = .value x) (hv : st.ev x = some (.clos f [])) (ha : st.evs c.args.toList = some svs) (hb : bors st.h true svs = some cs) (hE : ∀ es id g off len, SV.loc es id g off len ∈ svs → E es) (hf : st.fits o.dst = true)
    (hC : CC P f cs Qr) (hK : ∀ sv, Qr sv → sv.const = true → SAv E sv ∧ K (st.put o.dst sv)) : PWo P n0 r o K st := by
  intro I φ a w b hR hn hr hrb next Q' hq
  obtain ⟨ha1, ha2⟩ := evs_ok hR ha
  obtain ⟨hb1, hb2⟩ := bors_okE hR hb hE ha2
  have hev := ev_ok hR hv
  have hfun : ∃ caps, a.eval x = .func (.func f) #[] caps ∧ caps = #[] := by
    generalize a.eval x = v at hev
    cases hev with
    | clos _ _ vs hl _ => exact ⟨_, rfl, by obtain rfl : vs = [] := List.eq_nil_of_length_eq_zero hl; rfl⟩
  obtain ⟨caps, hfv, rfl⟩ := hfun
  refine uponIn_call ho ⟨x, hx, hfv, rfl⟩ hC.1 ?_
  obtain ⟨I2, hI2⟩ : ∃ I2 : Nat → Nat → Prop, I2 = fun b κ => I b κ ∨ (E κ ∧ MutK φ st.h b κ) := ⟨_, rfl⟩
  have hI2lt : ∀ b κ, I2 b κ → b < w.heap.size := by
    intro b κ hb
    rw [hI2] at hb
    rcases hb with hb | ⟨_, hm⟩
    · exact hR.rh.ilt b κ hb
    · obtain ⟨i, blk, hl, hm⟩ := hm.mut
      exact (hR.rh.mlt i blk b hl hm).1
  have harr : c.args.map a.eval ++ #[] = (c.args.toList.map a.eval).toArray := by apply Array.ext'; simp
  rw [harr]
  refine (hC.2 I2 (fun _ _ => none) w (c.args.toList.map a.eval) (rh_empty hI2lt) (by rw [hb1, ha1]; simp) (fun j sv u hj hu => ?_)).mono ?_
  · obtain ⟨h1, h2⟩ := hb2 j sv u hj hu
    rw [hI2]
    exact h1.any_phi h2
  · rintro e w' ⟨v, sv, nx', H', I', φ', rfl, ⟨hQr, hco⟩, hRH, _, hs, hev2⟩
    obtain ⟨hsc, hk⟩ := hK sv hQr hco
    have hnm : ∀ b, ¬ Mut (fun _ _ => none) [] b := fun b ⟨i, blk, hl, _⟩ => by cases hl
    have hold : ∀ b, b < w.heap.size → w'.heap[b]? = w.heap[b]? := fun b hb => hev2.frm b hb (hnm b)
    refine ⟨v, rfl, hq _ _ ?_⟩
    obtain ⟨I3, hI3⟩ : ∃ I3 : Nat → Nat → Prop, I3 = fun b κ => I' b κ ∧ (I b κ ∨ w.heap.size ≤ b) := ⟨_, rfl⟩
    have h13 : ∀ b κ, I b κ → I3 b κ := fun b κ h => by rw [hI3]; exact ⟨hev2.imm b κ (by rw [hI2]; exact .inl h), .inl h⟩
    have h31 : ∀ b κ, I3 b κ → I b κ ∨ w.heap.size ≤ b := fun b κ h => by rw [hI3] at h; exact h.2
    have h3l : ∀ b κ, I3 b κ → b < w'.heap.size := fun b κ h => by rw [hI3] at h; exact hRH.ilt b κ h.1
    have h23 : ∀ b κ, I' b κ → ¬ E κ → I3 b κ := fun b κ h hn => by
      rw [hI3]
      refine ⟨h, ?_⟩
      rcases hev2.iprov b κ h with h1 | h1 | h1
      · rw [hI2] at h1
        rcases h1 with h1 | ⟨h1, _⟩
        · exact .inl h1
        · exact absurd h1 hn
      · exact absurd h1 (hnm b)
      · exact .inr h1
    have hR' : R I3 φ st a w' := hR.grown hev2.size hold h13 h31 h3l
    refine ⟨_, I3, φ, hk, hR'.put hf (hs.avoid h23 hsc), by cases o.dst <;> exact hn, ?_⟩
    have : (st.put o.dst sv).h = st.h := by cases o.dst <;> rfl
    rw [this]
    exact ⟨hev2.os, hev2.tape, hev2.output, hev2.drawn, hev2.size, h13, fun b hb _ => hold b hb, fun _ h => .inl h, fun b κ h => by rcases h31 b κ h with h | h; exact .inl h; exact .inr (.inr h), fun _ _ _ _ h => h, fun _ _ _ => rfl, fun _ _ h => h⟩
theorem pwl_callx {ops : Array Oper} {o : Oper} {l : List Oper} {K : St → Prop} {st : St} {c : Call} {x : Operand} {f : Nat} {svs cs : List SV} (E : Nat → Prop) {Qr : SV → Prop} (hg : gate ops st o = some true)
    (ho : o.op = .call c) (hx : c.callee = .value x) (hv : st.ev x = some (.clos f [])) (ha : st.evs c.args.toList = some svs) (hb : bors st.h true svs = some cs) (hE : ∀ es id g off len, SV.loc es id g off len ∈ svs → E es) (hf : st.fits o.dst = true)
    (hC : CC P f cs Qr) (hK : ∀ sv, Qr sv → sv.const = true → SAv E sv ∧ PWl P n0 r ops l K (st.put o.dst sv)) : PWl P n0 r ops (o :: l) K st :=
  gate_true hg hf fun K' hK' => pwo_callx E ho hx hv ha hb hE hf hC fun sv h1 h2 => ⟨(hK sv h1 h2).1, hK' _ (hK sv h1 h2).2⟩
end Go.Vc
namespace Go.Proofs.T1
open Go.Vc
open Tryz
set_option linter.unusedSimpArgs false
set_option linter.unusedVariables false
set_option maxHeartbeats 4000000
set_option maxRecDepth 20000
attribute [local simp] runD_nil runD_cons runDO runDG runDV stabs stabO stabG runK_nil runK_cons runG_t runG_f runS_some runS_none gate dstOf step2 step1 vq vop vlook mput mfind isKeyB keq fin1 hbox halloc hstore hbuild hbuildSlice happend hmake vslice bound vbuild partsOf elemsOf inOrder topvs toPV svCells splice srcOf isNil St.ev St.evs St.fits St.put St.new St.upd St.frzs St.frz lk hset litOf vbuiltin vlen vbin vindex vfield vload rdc pvs capsOf Value.oneCell'
attribute [local simp] tsz3 tagg3 tbytes3 tint3 tzero3 tzero1_3 tsz4 tagg4 tbytes4 tbool4 tzero4 tzero1_4 tsz5 tagg5 tbytes5 tint5 tzero5 tzero1_5 tsz9 tagg9 tbytes9 tstr9 tzero9 tzero1_9 tsz22 tagg22 tel22 tbytes22 tzero22 tzero1_22 tsz23 tagg23 tel23 tbytes23 tzero23 tzero1_23 tsz24 tagg24 tel24 tbytes24 tzero24 tzero1_24 tsz25 tagg25 tbytes25 tzero25 tzero1_25 tsz29 tagg29 tel29 tbytes29 tzero29 tzero1_29 tsz30 tagg30 tel30 tbytes30 tzero30 tzero1_30 tsz32 tagg32 tbytes32 tzero32 foff32_0 foff32_1 foff32_2 foff32_3 foff32_4 foff32_5 foff32_6 foff32_7 foff32_8 foff32_9 tsz33 tagg33 tel33 tbytes33 tzero33 tzero1_33 tsz34 tagg34 tbytes34 tint34 tzero34 tzero1_34 tsz38 tagg38 tbytes38 tzero38 foff38_0 foff38_1 foff38_2 tsz47 tagg47 tel47 tbytes47 tzero47 tzero1_47 tsz52 tagg52 tel52 tbytes52 tzero52 tzero1_52 tsz54 tagg54 tbytes54 tzero54 foff54_0 foff54_1 foff54_2 foff54_3 foff54_4 foff54_5 tsz79 tagg79 tbytes79 tzero79 foff79_0 foff79_1 foff79_2 tsz117 tagg117 tbytes117 tzero117 foff117_0 foff117_1 foff117_2 tsz119 tagg119 tbytes119 tzero119 foff119_0 foff119_1 tsz121 tagg121 tbytes121 tzero121 foff121_0 foff121_1 foff121_2 foff121_3 tsz129 tagg129 tbytes129 tzero129 tzero1_129 tsz130 tagg130 tbytes130 tzero130 tzero1_130 tsz132 tagg132 tbytes132 tzero132 tzero1_132 tsz206 tagg206 tbytes206 tzero206 tzero1_206 mtype206 tsz208 tagg208 tbytes208 tsz217 tagg217 tel217 tbytes217 tzero217 tzero1_217 tsz220 tagg220 tbytes220 tzero220 foff220_0 foff220_1 tsz235 tagg235 tel235 tbytes235 tzero235 tzero1_235 tsz256 tagg256 tbytes256 tzero256 tzero1_256 mtype256 tsz351 tagg351 tbytes351 tzero351 tsz2 tagg2 tbytes2 tint2 tzero2 tzero1_2 tsz291 tagg291 tbytes291 tint291 tzero291 tzero1_291 sized32 places32_0 places32_1 places32_2 places32_3 places32_4 places32_5 places32_6 places32_7 places32_8 places32_9 sized38 places38_0 places38_1 places38_2 sized54 places54_0 places54_1 places54_2 places54_3 places54_4 places54_5 sized79 places79_0 places79_1 places79_2 sized117 places117_0 places117_1 places117_2 sized119 places119_0 places119_1 sized121 places121_0 places121_1 places121_2 places121_3 sized220 places220_0 places220_1
section
attribute [local simp] V.c V.z Sd.c Tst.c Fx.c Rl.c Fc.c
theorem wrap1f : IntKind.i64.wrap 1 = 1 := by decide
attribute [local simp] wrap1f
abbrev pfacts (F : List Fc) : List (List PV) := F.map Fc.c
structure Gr where
  n : Int
  cost : List Int
  edges : List (List Int)
abbrev Gr.c (g : Gr) : List PV := [pint g.n, .sl 1 (ints g.cost), .sl 1 (psets g.edges)]
attribute [local simp] Gr.c
theorem dVal_in {f : Fc} {m : Nat} (h : m < f.row.length) : dVal f (m : Int) = f.row[m] := by
  have h2 : (0 : Int) ≤ m ∧ (m : Int) < f.row.length := by omega
  unfold dVal colV
  rw [if_pos h2]
  simp [h]
theorem dVal_out {f : Fc} {c : Int} (h : ¬ (0 ≤ c ∧ c < f.row.length)) : dVal f c = V.z := by
  unfold dVal colV
  rw [if_neg h]
  rfl
end
section
attribute [local simp] V.c V.z Sd.c Tst.c Fx.c Rl.c Fc.c wrap1f take_map_len take_map_len1
abbrev sideRes (o : Option V) : SV := .tup [.agg (o.getD V.z).c, sbool o.isSome]
def Rng (F : List Fc) (s : List Int) : Prop := ∀ x ∈ s, 0 ≤ x ∧ x < F.length
theorem Rng.at {F : List Fc} {s : List Int} (h : Rng F s) {k : Nat} (hk : k < s.length) : ∃ q : Nat, s[k] = (q : Int) ∧ q < F.length := by
  have := h _ (List.getElem_mem hk)
  exact ⟨s[k].toNat, by omega, by omega⟩
end
section
attribute [local simp] V.c V.z Sd.c Tst.c Fx.c Rl.c Fc.c wrap1f take_map_len take_map_len1
end
section
attribute [local simp] V.c V.z Sd.c Tst.c Fx.c Rl.c Fc.c wrap1f take_map_len take_map_len1
def Okr (r : Rl) : Prop := r.cols.length ≤ 12 ∧ r.fixed.length ≤ 12 ∧ r.tables.length ≤ 12 ∧ r.tests.length ≤ 60
def OkR (R : List Rl) : Prop := ∀ r ∈ R, Okr r
abbrev prules (R : List Rl) : List (List PV) := R.map Rl.c
theorem lower_sane {r d : Rl} (h : Okr r) (hd : d ∈ lower r) : d.tests.length ≤ 100 ∧ d.tables.length ≤ 12 := by
  obtain ⟨h1, h2, h3, h4⟩ := h
  unfold lower at hd
  split at hd
  · simp at hd; subst hd; exact ⟨by omega, h3⟩
  · split at hd
    · simp at hd
    · simp at hd
      subst hd
      refine ⟨?_, by simp⟩
      unfold lowTests
      have hf : (r.fixed.flatMap fun f => [fixTest f 0, fixTest f 1]).length ≤ 2 * r.fixed.length := by
        have := fixT_len r r.fixed.length
        rwa [fixT_all] at this
      simp only [List.length_append, List.length_map]
      split <;> simp at hf ⊢ <;> omega
theorem lower_cases (r : Rl) : lower r = [] ∨ ∃ d, lower r = [d] := by
  unfold lower
  split
  · exact .inr ⟨_, rfl⟩
  · split
    · exact .inl rfl
    · exact .inr ⟨_, rfl⟩
end
section
attribute [local simp] V.c V.z Sd.c Tst.c Fx.c Rl.c Fc.c wrap1f take_map_len take_map_len1
theorem enters24 : Enters Tryz.prog 24 := enters_mk Tryz.func24 (by kernel_rfl) (by kernel_rfl)
def el (o : List (List Int)) (j : Nat) : List Int := (o[j]?).getD []
end
end Go.Proofs.T1
/- Plain laws, part f: the reference's search for violations. -/
namespace Go.Proofs.T1
open Go.Vc
abbrev tk (s i k m : Nat) : List Int := [(i : Int), (k : Int), (m : Int)].take s
def Acc (R : List Rl) (F : List Fc) (small : List (List Int)) (s i k m : Nat) : Prop := ¬ (s < 3 ∧ k < m) ∧ ¬ (s < 2 ∧ i < k) ∧ SetP (tk s i k m) F.length ∧ small.any (hasAll (tk s i k m)) = false ∧ BadP R F (tk s i k m)
def bf (i' k' m' i k m : Nat) : Prop := i' < i ∨ (i' = i ∧ (k' < k ∨ (k' = k ∧ m' < m)))
structure FInv (R : List Rl) (F : List Fc) (small : List (List Int)) (s : Nat) (L : List (List Int)) (i k m : Nat) : Prop where
  mem : ∀ x, x ∈ L ↔ ∃ i' k' m', i' ≤ k' ∧ k' ≤ m' ∧ m' < F.length ∧ bf i' k' m' i k m ∧ Acc R F small s i' k' m' ∧ x = tk s i' k' m'
  nd : L.Nodup
  len : L.length ≤ 169 * i + 13 * k + m
theorem FInv.start {R : List Rl} {F : List Fc} {small : List (List Int)} {s : Nat} : FInv R F small s [] 0 0 0 := ⟨fun x => by
  constructor
  · intro h; cases h
  · rintro ⟨i', k', m', _, _, _, h, _⟩
    unfold bf at h
    omega, by simp, by simp⟩
theorem FInv.congr {R : List Rl} {F : List Fc} {small : List (List Int)} {s : Nat} {L : List (List Int)} {i k m i2 k2 m2 : Nat} (h : FInv R F small s L i k m)
    (hb : ∀ i' k' m', i' ≤ k' → k' ≤ m' → m' < F.length → (bf i' k' m' i k m ↔ bf i' k' m' i2 k2 m2)) (hl : 169 * i + 13 * k + m ≤ 169 * i2 + 13 * k2 + m2) : FInv R F small s L i2 k2 m2 :=
  ⟨fun x => (h.mem x).trans ⟨fun ⟨i', k', m', a, b, c, d, e⟩ => ⟨i', k', m', a, b, c, (hb i' k' m' a b c).1 d, e⟩, fun ⟨i', k', m', a, b, c, d, e⟩ => ⟨i', k', m', a, b, c, (hb i' k' m' a b c).2 d, e⟩⟩, h.nd, Nat.le_trans h.len hl⟩
theorem FInv.skip {R : List Rl} {F : List Fc} {small : List (List Int)} {s : Nat} {L : List (List Int)} {i k m : Nat} (h : FInv R F small s L i k m) (hn : ¬ Acc R F small s i k m) : FInv R F small s L i k (m + 1) := by
  refine ⟨fun x => (h.mem x).trans ⟨fun ⟨i', k', m', a, b, c, d, e⟩ => ⟨i', k', m', a, b, c, by unfold bf at *; omega, e⟩, fun ⟨i', k', m', a, b, c, d, e, f⟩ => ?_⟩, h.nd, by have := h.len; omega⟩
  refine ⟨i', k', m', a, b, c, ?_, e, f⟩
  have : ¬ (i' = i ∧ k' = k ∧ m' = m) := fun ⟨e1, e2, e3⟩ => by subst e1 e2 e3; exact hn e
  unfold bf at *
  omega
theorem tk_inj {R : List Rl} {F : List Fc} {small : List (List Int)} {s i k m i' k' m' : Nat} (h1 : 1 ≤ s) (h3 : s ≤ 3) (ha : Acc R F small s i k m) (hb : Acc R F small s i' k' m') (hle : i ≤ k ∧ k ≤ m) (hle' : i' ≤ k' ∧ k' ≤ m') (e : tk s i k m = tk s i' k' m') : i = i' ∧ k = k' ∧ m = m' := by
  obtain ⟨a1, a2, _⟩ := ha
  obtain ⟨b1, b2, _⟩ := hb
  have hs : s = 1 ∨ s = 2 ∨ s = 3 := by omega
  rcases hs with rfl | rfl | rfl <;> simp [tk] at e <;> omega
theorem FInv.take {R : List Rl} {F : List Fc} {small : List (List Int)} {s : Nat} {L : List (List Int)} {i k m : Nat} (h : FInv R F small s L i k m) (h1 : 1 ≤ s) (h3 : s ≤ 3) (hik : i ≤ k) (hkm : k ≤ m) (hm : m < F.length) (hn : Acc R F small s i k m) : FInv R F small s (L ++ [tk s i k m]) i k (m + 1) := by
  refine ⟨fun x => ?_, ?_, by have := h.len; simp; omega⟩
  · rw [List.mem_append, h.mem, List.mem_singleton]
    constructor
    · rintro (⟨i', k', m', a, b, c, d, e⟩ | rfl)
      · exact ⟨i', k', m', a, b, c, by unfold bf at *; omega, e⟩
      · exact ⟨i, k, m, hik, hkm, hm, by unfold bf; omega, hn, rfl⟩
    · rintro ⟨i', k', m', a, b, c, d, e, f⟩
      by_cases he : i' = i ∧ k' = k ∧ m' = m
      · obtain ⟨rfl, rfl, rfl⟩ := he
        exact .inr f
      · exact .inl ⟨i', k', m', a, b, c, by unfold bf at *; omega, e, f⟩
  · rw [List.nodup_append]
    refine ⟨h.nd, by simp, fun x hx y hy e => ?_⟩
    simp at hy
    obtain ⟨i', k', m', a, b, c, d, ac, f⟩ := (h.mem x).1 hx
    have := tk_inj h1 h3 ac hn ⟨a, b⟩ ⟨hik, hkm⟩ (by rw [← f, e, hy])
    unfold bf at d
    omega
/-- What has been found of one size. -/
theorem FInv.done {R : List Rl} {F : List Fc} {small : List (List Int)} {s : Nat} {L : List (List Int)} (h1 : 1 ≤ s) (h3 : s ≤ 3) {k m : Nat} (h : FInv R F small s L F.length k m) (x : List Int) :
    x ∈ L ↔ SetP x F.length ∧ x.length = s ∧ small.any (hasAll x) = false ∧ BadP R F x := by
  rw [h.mem]
  constructor
  · rintro ⟨i', k', m', a, b, c, d, ⟨e1, e2, e3, e4, e5⟩, rfl⟩
    exact ⟨e3, by simp [tk]; omega, e4, e5⟩
  · rintro ⟨a, b, c, d⟩
    have ha := setP_iff.1 a
    have hs : s = 1 ∨ s = 2 ∨ s = 3 := by omega
    rcases hs with rfl | rfl | rfl
    · match x, b with
      | [p], _ =>
        have hp := ha.2 p (by simp)
        have e : [p] = tk 1 p.toNat p.toNat p.toNat := by simp [tk]; omega
        rw [e] at a c d ⊢
        exact ⟨_, _, _, Nat.le_refl _, Nat.le_refl _, by omega, by unfold bf; omega, ⟨by omega, by omega, a, c, d⟩, rfl⟩
    · match x, b with
      | [p, q], _ =>
        have hp := ha.2 p (by simp)
        have hq := ha.2 q (by simp)
        have hpq : p < q := by have := ha.1; simp at this; exact this
        have e : [p, q] = tk 2 p.toNat q.toNat q.toNat := by simp [tk]; omega
        rw [e] at a c d ⊢
        exact ⟨_, _, _, by omega, Nat.le_refl _, by omega, by unfold bf; omega, ⟨by omega, by omega, a, c, d⟩, rfl⟩
    · match x, b with
      | [p, q, r], _ =>
        have hp := ha.2 p (by simp)
        have hq := ha.2 q (by simp)
        have hr := ha.2 r (by simp)
        have hpq : p < q ∧ q < r := by have := ha.1; simp at this; exact ⟨this.1.1, this.2⟩
        have e : [p, q, r] = tk 3 p.toNat q.toNat r.toNat := by simp [tk]; omega
        rw [e] at a c d ⊢
        exact ⟨_, _, _, by omega, by omega, by omega, by unfold bf; omega, ⟨by omega, by omega, a, c, d⟩, rfl⟩
structure SInv (R : List Rl) (F : List Fc) (small : List (List Int)) (s : Nat) : Prop where
  mem : ∀ x, x ∈ small ↔ MinBad R F x ∧ x.length < s
  nd : small.Nodup
  len : small.length ≤ 2210 * s
theorem SInv.start {R : List Rl} {F : List Fc} : SInv R F [] 1 := ⟨fun x => by
  constructor
  · intro h; cases h
  · rintro ⟨h1, h2⟩
    have := minBad_len h1
    omega, by simp, by simp⟩
theorem SInv.done {R : List Rl} {F : List Fc} {small : List (List Int)} (h : SInv R F small 4) : lsort small = violL R F := (violL_eq ⟨lsort_strict h.nd, fun s => by
  rw [mem_lsort, h.mem]
  exact ⟨fun h => h.1, fun h => ⟨h, by have := minBad_len h; omega⟩⟩⟩).symm
end Go.Proofs.T1
namespace Go.Proofs.T1
open Go.Vc
open Tryz
set_option linter.unusedSimpArgs false
set_option linter.unusedVariables false
set_option maxHeartbeats 4000000
set_option maxRecDepth 20000
attribute [local simp] runD_nil runD_cons runDO runDG runDV stabs stabO stabG runK_nil runK_cons runG_t runG_f runS_some runS_none gate dstOf step2 step1 vq vop vlook mput mfind isKeyB keq fin1 hbox halloc hstore hbuild hbuildSlice happend hmake vslice bound vbuild partsOf elemsOf inOrder topvs toPV svCells splice srcOf isNil St.ev St.evs St.fits St.put St.new St.upd St.frzs St.frz lk hset litOf vbuiltin vlen vbin vindex vfield vload rdc pvs capsOf Value.oneCell'
attribute [local simp] tsz3 tagg3 tbytes3 tint3 tzero3 tzero1_3 tsz4 tagg4 tbytes4 tbool4 tzero4 tzero1_4 tsz5 tagg5 tbytes5 tint5 tzero5 tzero1_5 tsz9 tagg9 tbytes9 tstr9 tzero9 tzero1_9 tsz22 tagg22 tel22 tbytes22 tzero22 tzero1_22 tsz23 tagg23 tel23 tbytes23 tzero23 tzero1_23 tsz24 tagg24 tel24 tbytes24 tzero24 tzero1_24 tsz25 tagg25 tbytes25 tzero25 tzero1_25 tsz29 tagg29 tel29 tbytes29 tzero29 tzero1_29 tsz30 tagg30 tel30 tbytes30 tzero30 tzero1_30 tsz32 tagg32 tbytes32 tzero32 foff32_0 foff32_1 foff32_2 foff32_3 foff32_4 foff32_5 foff32_6 foff32_7 foff32_8 foff32_9 tsz33 tagg33 tel33 tbytes33 tzero33 tzero1_33 tsz34 tagg34 tbytes34 tint34 tzero34 tzero1_34 tsz38 tagg38 tbytes38 tzero38 foff38_0 foff38_1 foff38_2 tsz47 tagg47 tel47 tbytes47 tzero47 tzero1_47 tsz52 tagg52 tel52 tbytes52 tzero52 tzero1_52 tsz54 tagg54 tbytes54 tzero54 foff54_0 foff54_1 foff54_2 foff54_3 foff54_4 foff54_5 tsz79 tagg79 tbytes79 tzero79 foff79_0 foff79_1 foff79_2 tsz117 tagg117 tbytes117 tzero117 foff117_0 foff117_1 foff117_2 tsz119 tagg119 tbytes119 tzero119 foff119_0 foff119_1 tsz121 tagg121 tbytes121 tzero121 foff121_0 foff121_1 foff121_2 foff121_3 tsz129 tagg129 tbytes129 tzero129 tzero1_129 tsz130 tagg130 tbytes130 tzero130 tzero1_130 tsz132 tagg132 tbytes132 tzero132 tzero1_132 tsz206 tagg206 tbytes206 tzero206 tzero1_206 mtype206 tsz208 tagg208 tbytes208 tsz217 tagg217 tel217 tbytes217 tzero217 tzero1_217 tsz220 tagg220 tbytes220 tzero220 foff220_0 foff220_1 tsz235 tagg235 tel235 tbytes235 tzero235 tzero1_235 tsz256 tagg256 tbytes256 tzero256 tzero1_256 mtype256 tsz351 tagg351 tbytes351 tzero351 tsz2 tagg2 tbytes2 tint2 tzero2 tzero1_2 tsz291 tagg291 tbytes291 tint291 tzero291 tzero1_291 sized32 places32_0 places32_1 places32_2 places32_3 places32_4 places32_5 places32_6 places32_7 places32_8 places32_9 sized38 places38_0 places38_1 places38_2 sized54 places54_0 places54_1 places54_2 places54_3 places54_4 places54_5 sized79 places79_0 places79_1 places79_2 sized117 places117_0 places117_1 places117_2 sized119 places119_0 places119_1 sized121 places121_0 places121_1 places121_2 places121_3 sized220 places220_0 places220_1
section
attribute [local simp] V.c V.z Sd.c Tst.c Fx.c Rl.c Fc.c wrap1f take_map_len take_map_len1
end
end Go.Proofs.T1
/- Plain laws, part g: the reference's search for facts that dangle. -/
namespace Go.Proofs.T1
open Go.Vc
def stage (R : List Rl) (n i k : Nat) (r' : Rl) (k' : Nat) : Prop := (r' ∈ R.take i ∧ k' < n) ∨ (∃ h : i < R.length, r' = R[i] ∧ k' < k)
structure DI (R : List Rl) (F : List Fc) (c0 : Nat) (out : List Bool) (ag : Bool) (i k : Nat) : Prop where
  len : out.length = F.length
  least : Least R F out
  le : nfalse out ≤ c0
  lt : ag = true → nfalse out < c0
  ok : ag = false → ∀ r k', stage R F.length i k r k' → dOK F out r k'
theorem DI.start {R : List Rl} {F : List Fc} {out : List Bool} (h1 : out.length = F.length) (h2 : Least R F out) : DI R F (nfalse out) out false 0 0 :=
  ⟨h1, h2, Nat.le_refl _, fun h => (by cases h), fun _ r k' h => by
    rcases h with ⟨h, _⟩ | ⟨_, _, h⟩
    · simp at h
    · omega⟩
theorem DI.next {R : List Rl} {F : List Fc} {c0 : Nat} {out : List Bool} {ag : Bool} {i k : Nat} (h : DI R F c0 out ag i k) (hi : i < R.length) (hd : dOK F out R[i] k) : DI R F c0 out ag i (k + 1) :=
  ⟨h.len, h.least, h.le, h.lt, fun ha r k' hs => by
    rcases hs with hs | ⟨h1, h2, h3⟩
    · exact h.ok ha r k' (.inl hs)
    · by_cases e : k' = k
      · subst e; rw [h2]; exact hd
      · exact h.ok ha r k' (.inr ⟨h1, h2, by omega⟩)⟩
theorem DI.put {R : List Rl} {F : List Fc} {c0 : Nat} {out : List Bool} {ag : Bool} {i k : Nat} (h : DI R F c0 out ag i k) (hi : i < R.length) (hk : k < F.length) (hd : ¬ dOK F out R[i] k) : DI R F c0 (out.set k true) true i (k + 1) := by
  have hg : gone out k = false := by
    cases hg : gone out k with
    | false => rfl
    | true => exact absurd (.inl hg) hd
  have hlt := nfalse_set (by rw [h.len]; exact hk) hg
  have := h.le
  exact ⟨by rw [List.length_set]; exact h.len, least_set h.least (List.getElem_mem hi) hk hd, by omega, fun _ => by omega, fun ha => by cases ha⟩
theorem DI.rule {R : List Rl} {F : List Fc} {c0 : Nat} {out : List Bool} {ag : Bool} {i k : Nat} (h : DI R F c0 out ag i k) (hi : i < R.length) (hk : k = F.length ∨ R[i].kind ≠ 3) : DI R F c0 out ag (i + 1) 0 :=
  ⟨h.len, h.least, h.le, h.lt, fun ha r k' hs => by
    rcases hs with ⟨hs, hk'⟩ | ⟨_, _, h3⟩
    · rw [List.take_succ_eq_append_getElem hi] at hs
      rcases List.mem_append.1 hs with hs | hs
      · exact h.ok ha r k' (.inl ⟨hs, hk'⟩)
      · simp at hs
        subst hs
        rcases hk with rfl | hk
        · exact h.ok ha _ k' (.inr ⟨hi, rfl, hk'⟩)
        · exact .inr (.inl fun hn => hk hn.1)
    · omega⟩
theorem DI.done {R : List Rl} {F : List Fc} {c0 : Nat} {out : List Bool} (h : DI R F c0 out false R.length 0) : IsDang R F out :=
  ⟨h.len, h.least, fun r hr k hk => h.ok rfl r k (.inl ⟨by rw [List.take_of_length_le (Nat.le_refl _)]; exact hr, hk⟩)⟩
abbrev pbools (l : List Bool) : List (List PV) := l.map fun b => [.lit (.bool b)]
theorem gone_get {out : List Bool} {k : Nat} (h : k < out.length) : gone out k = out[k] := by simp [gone, h]
theorem pbools_set (l : List Bool) (k : Nat) (b : Bool) : pbools (l.set k b) = (pbools l).set k [.lit (.bool b)] := by simp
/-- What the last loop collects. -/
def gl (out : List Bool) (k : Nat) : List Int := (allI k).filter fun x => gone out x.toNat
theorem IsDang.gl {R : List Rl} {F : List Fc} {out : List Bool} (h : IsDang R F out) : gl out F.length = dangL R F := h.list
end Go.Proofs.T1
namespace Go.Proofs.T1
open Go.Vc
open Tryz
set_option linter.unusedSimpArgs false
set_option linter.unusedVariables false
set_option maxHeartbeats 4000000
set_option maxRecDepth 20000
attribute [local simp] runD_nil runD_cons runDO runDG runDV stabs stabO stabG runK_nil runK_cons runG_t runG_f runS_some runS_none gate dstOf step2 step1 vq vop vlook mput mfind isKeyB keq fin1 hbox halloc hstore hbuild hbuildSlice happend hmake vslice bound vbuild partsOf elemsOf inOrder topvs toPV svCells splice srcOf isNil St.ev St.evs St.fits St.put St.new St.upd St.frzs St.frz lk hset litOf vbuiltin vlen vbin vindex vfield vload rdc pvs capsOf Value.oneCell'
attribute [local simp] tsz3 tagg3 tbytes3 tint3 tzero3 tzero1_3 tsz4 tagg4 tbytes4 tbool4 tzero4 tzero1_4 tsz5 tagg5 tbytes5 tint5 tzero5 tzero1_5 tsz9 tagg9 tbytes9 tstr9 tzero9 tzero1_9 tsz22 tagg22 tel22 tbytes22 tzero22 tzero1_22 tsz23 tagg23 tel23 tbytes23 tzero23 tzero1_23 tsz24 tagg24 tel24 tbytes24 tzero24 tzero1_24 tsz25 tagg25 tbytes25 tzero25 tzero1_25 tsz29 tagg29 tel29 tbytes29 tzero29 tzero1_29 tsz30 tagg30 tel30 tbytes30 tzero30 tzero1_30 tsz32 tagg32 tbytes32 tzero32 foff32_0 foff32_1 foff32_2 foff32_3 foff32_4 foff32_5 foff32_6 foff32_7 foff32_8 foff32_9 tsz33 tagg33 tel33 tbytes33 tzero33 tzero1_33 tsz34 tagg34 tbytes34 tint34 tzero34 tzero1_34 tsz38 tagg38 tbytes38 tzero38 foff38_0 foff38_1 foff38_2 tsz47 tagg47 tel47 tbytes47 tzero47 tzero1_47 tsz52 tagg52 tel52 tbytes52 tzero52 tzero1_52 tsz54 tagg54 tbytes54 tzero54 foff54_0 foff54_1 foff54_2 foff54_3 foff54_4 foff54_5 tsz79 tagg79 tbytes79 tzero79 foff79_0 foff79_1 foff79_2 tsz117 tagg117 tbytes117 tzero117 foff117_0 foff117_1 foff117_2 tsz119 tagg119 tbytes119 tzero119 foff119_0 foff119_1 tsz121 tagg121 tbytes121 tzero121 foff121_0 foff121_1 foff121_2 foff121_3 tsz129 tagg129 tbytes129 tzero129 tzero1_129 tsz130 tagg130 tbytes130 tzero130 tzero1_130 tsz132 tagg132 tbytes132 tzero132 tzero1_132 tsz206 tagg206 tbytes206 tzero206 tzero1_206 mtype206 tsz208 tagg208 tbytes208 tsz217 tagg217 tel217 tbytes217 tzero217 tzero1_217 tsz220 tagg220 tbytes220 tzero220 foff220_0 foff220_1 tsz235 tagg235 tel235 tbytes235 tzero235 tzero1_235 tsz256 tagg256 tbytes256 tzero256 tzero1_256 mtype256 tsz351 tagg351 tbytes351 tzero351 tsz2 tagg2 tbytes2 tint2 tzero2 tzero1_2 tsz291 tagg291 tbytes291 tint291 tzero291 tzero1_291 sized32 places32_0 places32_1 places32_2 places32_3 places32_4 places32_5 places32_6 places32_7 places32_8 places32_9 sized38 places38_0 places38_1 places38_2 sized54 places54_0 places54_1 places54_2 places54_3 places54_4 places54_5 sized79 places79_0 places79_1 places79_2 sized117 places117_0 places117_1 places117_2 sized119 places119_0 places119_1 sized121 places121_0 places121_1 places121_2 places121_3 sized220 places220_0 places220_1
section
attribute [local simp] V.c V.z Sd.c Tst.c Fx.c Rl.c Fc.c wrap1f take_map_len take_map_len1
end
section
attribute [local simp] V.c V.z Sd.c Tst.c Fx.c Rl.c Fc.c Gr.c wrap1f take_map_len take_map_len1
def all3 : List (List Int) := (List.range 12).flatMap fun i => (List.range 12).flatMap fun k => (List.range 12).flatMap fun m => [tk 1 i k m, tk 2 i k m, tk 3 i k m]
theorem all3_len : all3.length = 5184 := by decide +kernel
theorem mem_all3 {i k m s : Nat} (hi : i < 12) (hk : k < 12) (hm : m < 12) (h1 : 1 ≤ s) (h3 : s ≤ 3) : tk s i k m ∈ all3 := by
  unfold all3
  refine List.mem_flatMap.2 ⟨i, List.mem_range.2 hi, List.mem_flatMap.2 ⟨k, List.mem_range.2 hk, List.mem_flatMap.2 ⟨m, List.mem_range.2 hm, ?_⟩⟩⟩
  have hs : s = 1 ∨ s = 2 ∨ s = 3 := by omega
  rcases hs with rfl | rfl | rfl <;> simp only [List.mem_cons, true_or, or_true]
theorem viol_len {R : List Rl} {F : List Fc} (hF : F.length ≤ 12) : (violL R F).length ≤ 5184 := by
  rw [← all3_len]
  refine viol_count_le all3 fun x hx => ?_
  have hl := minBad_len hx
  have ha := (setP_iff.1 hx.1).2
  match x, hl with
  | [p], _ =>
    have hp := ha p (by simp)
    have e : [p] = tk 1 p.toNat 0 0 := by simp [tk]; omega
    rw [e]
    exact mem_all3 (by omega) (by omega) (by omega) (by omega) (by omega)
  | [p, q], _ =>
    have hp := ha p (by simp)
    have hq := ha q (by simp)
    have e : [p, q] = tk 2 p.toNat q.toNat 0 := by simp [tk]; omega
    rw [e]
    exact mem_all3 (by omega) (by omega) (by omega) (by omega) (by omega)
  | [p, q, r], _ =>
    have hp := ha p (by simp)
    have hq := ha q (by simp)
    have hr := ha r (by simp)
    have e : [p, q, r] = tk 3 p.toNat q.toNat r.toNat := by simp [tk]; omega
    rw [e]
    exact mem_all3 (by omega) (by omega) (by omega) (by omega) (by omega)
  | [], h => simp at h
  | _ :: _ :: _ :: _ :: _, h => simp at h
theorem dang_len {R : List Rl} {F : List Fc} : (dangL R F).length ≤ F.length := by
  have h := nodup_len (l := dangL R F) (m := allI F.length) inc_dangL.nodup fun x hx => by
    have := mem_dangL.1 hx
    exact mem_allI.2 ⟨this.1, this.2.1⟩
  have h2 : (allI F.length).length = F.length := by simp [allI]
  omega
def costBad (F : List Fc) : Bool := F.any fun f => decide (f.cost < 0) || decide (1000000000 < f.cost)
noncomputable def confG (R : List Rl) (F : List Fc) : Gr := if costBad F then ⟨0, [], []⟩ else ⟨F.length, F.map Fc.cost, edgeL R F⟩
def confE (F : List Fc) : Int := if costBad F then 1 else 0
end
end Go.Proofs.T1
