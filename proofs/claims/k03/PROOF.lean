import PyProof.Rows.All
import Wide.All
import OpenK.AllK
import Wide.FinOn
import HandS.ForMost
import HandS.Walk
import HandS.Zip
import HandS.Wide
import HandS.WideBits
import HandS.IsInst
import HandS.Defaults
import HandS.Style
import HandS.Flow
import HandS.TupAny
import HandS.ForExc
import KE.KStateDown
import HandS.Head0
import HandS.Head1
import HandS.Head2
import HandS.HeadEnd
import HandS.HeadHook1
import HandS.HeadHook2
import HandS.Ends
import PySem.Challenge.RW_shutopen_k03_rows_and_products
set_option Elab.async false
set_option linter.all false
set_option maxRecDepth 100000
set_option maxHeartbeats 4000000
/-! PL: a layer of plain data over the hand layer. Values as trees, no addresses: what a def makes of its arguments is told by data alone. -/
namespace PL
open PySem PySem.Spec PyProof.Rows L2

/-- plain data -/
inductive D where
  | non | bl (b : Bool) | int (i : Int) | str (x : Str) | tup (xs : List D) | lst (xs : List D) | scr (ns : List Int) | bag | ty (n : String) | cls (C : Addr)

/-- marks of addresses: 0 as it is for ever, 1 a list that its maker still changes, 2 a bag of draws -/
abbrev Mk := Addr → Nat

def BagInv (i r m k : Int) (ns : List Int) : Prop := 0 ≤ i ∧ 0 ≤ r ∧ 0 ≤ m ∧ m < 2147483648 ∧ 0 ≤ k ∧ ns.length ≤ 63
def BagC (M : Mk) (H : Hp) (b c : Addr) : Prop := ∃ (i r m k : Int) (ns : List Int),
  H b = some (.lst [.ref c, .int i, .int r, .int m, .int k]) ∧ M c = 0 ∧ H c = some (.lst (ns.map V.int)) ∧ BagInv i r m k ns
def BagAt (M : Mk) (H : Hp) (b : Addr) : Prop := ∃ c, BagC M H b c

/-- a list, a tuple that stands for ever: tracked and unmarked, or the module's own -/
def FL (M : Mk) (H : Hp) (a : Addr) (vs : List V) : Prop := M a = 0 ∧ H a = some (.lst vs)
def FT (K : PySem.W.Frag) (M : Mk) (H : Hp) (a : Addr) (vs : List V) : Prop := (M a = 0 ∧ H a = some (.tup vs)) ∨ ((∃ o, K.lookup a = some o ∧ o.cls = .type "tuple") ∧ ∀ H', SqT K H' a vs)
theorem FL.sq {K : PySem.W.Frag} {M : Mk} {H : Hp} {a : Addr} {vs : List V} (h : FL M H a vs) : SqL K H a vs := .inl (.inl h.2)
theorem FT.sq {K : PySem.W.Frag} {M : Mk} {H : Hp} {a : Addr} {vs : List V} (h : FT K M H a vs) : SqT K H a vs := by
  rcases h with ⟨_, h⟩ | ⟨_, h⟩
  · exact .inl (.inl h)
  · exact h H

mutual
/-- the value v stands for the datum d -/
def Rep (K : PySem.W.Frag) (M : Mk) (H : Hp) : D → V → Prop
  | .non, v => v = .non
  | .bl b, v => v = .bl b
  | .int i, v => v = .int i
  | .str x, v => v = .str x
  | .tup xs, v => ∃ a vs, v = .ref a ∧ FT K M H a vs ∧ xs.length ≤ sizeLine ∧ Reps K M H xs vs
  | .lst xs, v => ∃ a vs, v = .ref a ∧ FL M H a vs ∧ xs.length ≤ sizeLine ∧ Reps K M H xs vs
  | .scr ns, v => ∃ a, v = .ref a ∧ M a = 0 ∧ Rd H a (.lst (ns.map V.int))
  | .bag, v => ∃ a, v = .ref a ∧ M a = 2
  | .ty n, v => v = .ty n
  | .cls C, v => v = .ref C
def Reps (K : PySem.W.Frag) (M : Mk) (H : Hp) : List D → List V → Prop
  | [], vs => vs = []
  | x :: xs, vs => ∃ w ws, vs = w :: ws ∧ Rep K M H x w ∧ Reps K M H xs ws
end

/-- what stands goes on to stand -/
structure Ext (M : Mk) (H : Hp) (M' : Mk) (H' : Hp) : Prop where
  z : ∀ a o, M a = 0 → H a = some o → M' a = 0 ∧ H' a = some o
  b : ∀ a, M a = 2 → M' a = 2
structure Keep (M : Mk) (H H' : Hp) : Prop where
  k : ∀ a o, M a ≠ 2 → H a = some o → H' a = some o
  b : ∀ a c, M a = 2 → BagC M H a c → BagC M H' a c
structure Wf (M : Mk) (H : Hp) : Prop where
  t : ∀ a, M a ≠ 0 → H a ≠ none
  b : ∀ a, M a = 2 → BagAt M H a
section
variable {K : PySem.W.Frag} {M M' M'' : Mk} {H H' H'' : Hp}
theorem Ext.rd (e : Ext M H M' H') {a : Addr} {u : HO} (hm : M a = 0) (h : Rd H a u) : M' a = 0 ∧ Rd H' a u := by
  rcases h with h | ⟨o, h⟩
  · exact ⟨(e.z a _ hm h).1, .inl (e.z a _ hm h).2⟩
  · exact ⟨(e.z a _ hm h).1, .inr ⟨o, (e.z a _ hm h).2⟩⟩
theorem FL.ext (e : Ext M H M' H') {a : Addr} {vs : List V} (h : FL M H a vs) : FL M' H' a vs := e.z a _ h.1 h.2
theorem FT.ext (e : Ext M H M' H') {a : Addr} {vs : List V} (h : FT K M H a vs) : FT K M' H' a vs := by
  rcases h with ⟨hm, h⟩ | h
  · exact .inl (e.z a _ hm h)
  · exact .inr h
mutual
theorem Rep.ext (e : Ext M H M' H') : ∀ {d : D} {v : V}, Rep K M H d v → Rep K M' H' d v
  | .non, _, h => by unfold Rep at h ⊢; exact h
  | .bl _, _, h => by unfold Rep at h ⊢; exact h
  | .int _, _, h => by unfold Rep at h ⊢; exact h
  | .str _, _, h => by unfold Rep at h ⊢; exact h
  | .tup xs, _, h => by
    unfold Rep at h ⊢
    obtain ⟨a, vs, e1, f, l, r⟩ := h
    exact ⟨a, vs, e1, f.ext e, l, Reps.ext e r⟩
  | .lst xs, _, h => by
    unfold Rep at h ⊢
    obtain ⟨a, vs, e1, f, l, r⟩ := h
    exact ⟨a, vs, e1, f.ext e, l, Reps.ext e r⟩
  | .scr ns, _, h => by
    unfold Rep at h ⊢
    obtain ⟨a, e1, f, g⟩ := h
    exact ⟨a, e1, e.rd f g⟩
  | .bag, _, h => by
    unfold Rep at h ⊢
    obtain ⟨a, e1, f⟩ := h
    exact ⟨a, e1, e.b a f⟩
  | .ty _, _, h => by unfold Rep at h ⊢; exact h
  | .cls _, _, h => by unfold Rep at h ⊢; exact h
theorem Reps.ext (e : Ext M H M' H') : ∀ {ds : List D} {vs : List V}, Reps K M H ds vs → Reps K M' H' ds vs
  | [], _, h => by unfold Reps at h ⊢; exact h
  | d :: ds, _, h => by
    unfold Reps at h ⊢
    obtain ⟨w, ws, e1, r, rs⟩ := h
    exact ⟨w, ws, e1, Rep.ext e r, Reps.ext e rs⟩
end
theorem Reps.nil : Reps K M H [] [] := by unfold Reps; rfl
theorem Reps.cons {d : D} {v : V} {ds : List D} {vs : List V} (h : Rep K M H d v) (r : Reps K M H ds vs) : Reps K M H (d :: ds) (v :: vs) := by
  unfold Reps; exact ⟨v, vs, rfl, h, r⟩
theorem Reps.nil_inv {vs : List V} (h : Reps K M H [] vs) : vs = [] := by unfold Reps at h; exact h
theorem Reps.cons_inv {d : D} {ds : List D} {vs : List V} (h : Reps K M H (d :: ds) vs) : ∃ w ws, vs = w :: ws ∧ Rep K M H d w ∧ Reps K M H ds ws := by unfold Reps at h; exact h
theorem Reps.length : ∀ {ds : List D} {vs : List V}, Reps K M H ds vs → ds.length = vs.length
  | [], _, h => by rw [h.nil_inv]; rfl
  | d :: ds, _, h => by
    obtain ⟨w, ws, rfl, _, rs⟩ := h.cons_inv
    simp only [List.length_cons, Reps.length rs]
theorem Reps.get : ∀ {ds : List D} {vs : List V} {i : Nat} {v : V}, Reps K M H ds vs → vs[i]? = some v → ∃ d, ds[i]? = some d ∧ Rep K M H d v
  | [], _, i, v, h, e => by rw [h.nil_inv] at e; simp at e
  | d :: ds, _, i, v, h, e => by
    obtain ⟨w, ws, rfl, r, rs⟩ := h.cons_inv
    cases i with
    | zero => simp at e; subst e; exact ⟨d, by simp, r⟩
    | succ i => obtain ⟨d', h1, h2⟩ := Reps.get (i := i) rs (by simpa using e); exact ⟨d', by simpa using h1, h2⟩
theorem Reps.getD : ∀ {ds : List D} {vs : List V} {i : Nat} {d : D}, Reps K M H ds vs → ds[i]? = some d → ∃ v, vs[i]? = some v ∧ Rep K M H d v
  | [], _, i, v, h, e => by simp at e
  | d :: ds, _, i, d', h, e => by
    obtain ⟨w, ws, rfl, r, rs⟩ := h.cons_inv
    cases i with
    | zero => simp at e; subst e; exact ⟨w, by simp, r⟩
    | succ i => obtain ⟨v, h1, h2⟩ := Reps.getD (i := i) rs (by simpa using e); exact ⟨v, by simpa using h1, h2⟩
theorem Reps.append : ∀ {ds es : List D} {vs ws : List V}, Reps K M H ds vs → Reps K M H es ws → Reps K M H (ds ++ es) (vs ++ ws)
  | [], _, _, _, h, g => by rw [h.nil_inv]; exact g
  | d :: ds, _, _, _, h, g => by
    obtain ⟨w, ws, rfl, r, rs⟩ := h.cons_inv
    exact Reps.cons r (Reps.append rs g)
theorem Reps.take : ∀ {ds : List D} {vs : List V} (n : Nat), Reps K M H ds vs → Reps K M H (ds.take n) (vs.take n)
  | _, _, 0, _ => by simp; exact Reps.nil
  | [], _, n + 1, h => by rw [h.nil_inv]; simp; exact Reps.nil
  | d :: ds, _, n + 1, h => by
    obtain ⟨w, ws, rfl, r, rs⟩ := h.cons_inv
    exact Reps.cons r (Reps.take n rs)
theorem Reps.drop : ∀ {ds : List D} {vs : List V} (n : Nat), Reps K M H ds vs → Reps K M H (ds.drop n) (vs.drop n)
  | _, _, 0, h => h
  | [], _, n + 1, h => by rw [h.nil_inv]; simp; exact Reps.nil
  | d :: ds, _, n + 1, h => by
    obtain ⟨w, ws, rfl, r, rs⟩ := h.cons_inv
    exact Reps.drop n rs
theorem Reps.set : ∀ {ds : List D} {vs : List V} (i : Nat) {d : D} {v : V}, Reps K M H ds vs → Rep K M H d v → Reps K M H (ds.set i d) (vs.set i v)
  | [], _, i, _, _, h, _ => by rw [h.nil_inv]; exact Reps.nil
  | d :: ds, _, i, _, _, h, g => by
    obtain ⟨w, ws, rfl, r, rs⟩ := h.cons_inv
    cases i with
    | zero => exact Reps.cons g rs
    | succ i => exact Reps.cons r (Reps.set i rs g)
theorem Reps.ints : ∀ {ns : List Int} {vs : List V}, Reps K M H (ns.map D.int) vs → vs = ns.map V.int
  | [], _, h => h.nil_inv
  | n :: ns, _, h => by
    obtain ⟨w, ws, rfl, r, rs⟩ := h.cons_inv
    unfold Rep at r
    rw [r, Reps.ints rs]; rfl
theorem Reps.bls : ∀ {ns : List Bool} {vs : List V}, Reps K M H (ns.map D.bl) vs → vs = ns.map V.bl
  | [], _, h => h.nil_inv
  | n :: ns, _, h => by
    obtain ⟨w, ws, rfl, r, rs⟩ := h.cons_inv
    unfold Rep at r
    rw [r, Reps.bls rs]; rfl
theorem Reps.of_ints : ∀ {ns : List Int}, Reps K M H (ns.map D.int) (ns.map V.int)
  | [] => Reps.nil
  | n :: ns => Reps.cons (by unfold Rep; rfl) Reps.of_ints

theorem Ext.refl : Ext M H M H := ⟨fun _ _ h e => ⟨h, e⟩, fun _ h => h⟩
theorem Ext.trans (a : Ext M H M' H') (b : Ext M' H' M'' H'') : Ext M H M'' H'' :=
  ⟨fun x o h e => let ⟨h1, e1⟩ := a.z x o h e; b.z x o h1 e1, fun x h => b.b x (a.b x h)⟩
theorem Keep.ext (k : Keep M H H') : Ext M H M H' := ⟨fun a o hm e => ⟨hm, k.k a o (by rw [hm]; decide) e⟩, fun _ h => h⟩
theorem Keep.refl : Keep M H H := ⟨fun _ _ _ e => e, fun _ _ _ h => h⟩
theorem Keep.trans (a : Keep M H H') (b : Keep M H' H'') : Keep M H H'' := ⟨fun x o hm e => b.k x o hm (a.k x o hm e), fun x c hm h => b.b x c hm (a.b x c hm h)⟩
theorem Rep.keep (k : Keep M H H') {d : D} {v : V} (h : Rep K M H d v) : Rep K M H' d v := h.ext k.ext
theorem Reps.keep (k : Keep M H H') {d : List D} {v : List V} (h : Reps K M H d v) : Reps K M H' d v := h.ext k.ext
theorem BagC.ne {b c p : Addr} (h : BagC M H b c) (hp : H p = none) : p ≠ b ∧ p ≠ c := by
  obtain ⟨i, r, m, k, ns, h1, _, h3, _⟩ := h
  exact ⟨fun e => (by subst e; rw [h1] at hp; cases hp), fun e => (by subst e; rw [h3] at hp; cases hp)⟩
theorem BagC.upd {b c p : Addr} {o : HO} (h : BagC M H b c) (hb : p ≠ b) (hc : p ≠ c) : BagC M (upd H p o) b c := by
  obtain ⟨i, r, m, k, ns, h1, h2, h3, h4⟩ := h
  exact ⟨i, r, m, k, ns, by rw [upd_ne (Ne.symm hb)]; exact h1, h2, by rw [upd_ne (Ne.symm hc)]; exact h3, h4⟩
theorem BagC.zero {b c : Addr} (h : BagC M H b c) : M c = 0 := by obtain ⟨i, r, m, k, ns, h1, h2, h3, h4⟩ := h; exact h2
theorem BagC.mk {M' : Mk} {b c : Addr} (h : BagC M H b c) (hc : M' c = 0) : BagC M' H b c := by obtain ⟨i, r, m, k, ns, h1, h2, h3, h4⟩ := h; exact ⟨i, r, m, k, ns, h1, hc, h3, h4⟩
/-- a new object -/
theorem Keep.new {p : Addr} {o : HO} (hp : H p = none) : Keep M H (L2.upd H p o) :=
  ⟨fun a u _ e => by rw [upd_ne (fun z => by subst z; rw [hp] at e; cases e)]; exact e, fun a c hm h => h.upd (h.ne hp).1 (h.ne hp).2⟩
theorem Wf.zero (w : Wf M H) {p : Addr} (hp : H p = none) : M p = 0 := by
  cases Nat.decEq (M p) 0 with
  | isTrue h => exact h
  | isFalse h => exact absurd hp (w.t p h)
theorem Keep.some (k : Keep M H H') (w : Wf M H) {a : Addr} (h : H a ≠ none) : H' a ≠ none := by
  cases e : H a with
  | none => exact absurd e h
  | some o =>
    by_cases hm : M a = 2
    · obtain ⟨c, hb⟩ := w.b a hm
      obtain ⟨i, r, m, k', ns, h1, _⟩ := k.b a c hm hb
      rw [h1]; simp
    · rw [k.k a o hm e]; simp
theorem Wf.keep (w : Wf M H) (k : Keep M H H') : Wf M H' := ⟨fun a hm => k.some w (w.t a hm), fun a hm => let ⟨c, hb⟩ := w.b a hm; ⟨c, k.b a c hm hb⟩⟩
end

/-! ### the state of a frame by data -/
/-- what a name holds: nothing that is known, a datum, a list of its own that is still changed -/
inductive Sl where
  | un | v (d : D) | o (ds : List D)
def SlotOk (K : PySem.W.Frag) (M : Mk) (H0 H : Hp) : Sl → Option (Option V) → Prop
  | .un, _ => True
  | .v d, s => ∃ v, s = some (some v) ∧ Rep K M H d v
  | .o ds, s => ∃ p vs, s = some (some (.ref p)) ∧ M p = 1 ∧ H0 p = none ∧ H p = some (.lst vs) ∧ ds.length ≤ sizeLine ∧ Reps K M H ds vs
structure S8 (K : PySem.W.Frag) (M M0 : Mk) (H0 : Hp) (G : List Sl) (σ : L2.St) (H : Hp) : Prop where
  wf : Wf M H
  wf0 : Wf M0 H0
  mks : ∀ a, H0 a ≠ none → M a = M0 a
  bg : ∀ a, M a = 2 → M0 a = 2
  kp : Keep M0 H0 H
  len : G.length = σ.length
  sl : ∀ (i : Nat) (s : Sl), G[i]? = some s → SlotOk K M H0 H s σ[i]?
  dis : ∀ (i j : Nat) (ds es : List D), G[i]? = some (.o ds) → G[j]? = some (.o es) → σ[i]? = σ[j]? → i = j
section
variable {K : PySem.W.Frag} {M M0 : Mk} {H0 H H' : Hp} {G : List Sl} {σ : L2.St}
theorem S8.z0 (h : S8 K M M0 H0 G σ H) {a : Addr} (hm : M a = 0) : M0 a = 0 := by
  cases Nat.decEq (M0 a) 0 with
  | isTrue q => exact q
  | isFalse q => rw [← h.mks a (h.wf0.t a q)] at q; exact absurd hm q
theorem S8.ext0 (h : S8 K M M0 H0 G σ H) : Ext M H M0 H := ⟨fun a o hm e => ⟨h.z0 hm, e⟩, fun a hm => h.bg a hm⟩
theorem S8.keep0 (h : S8 K M M0 H0 G σ H) (k : Keep M H H') : Keep M0 H0 H' := by
  refine ⟨fun a o hm e => k.k a o (fun z => hm (h.bg a z)) (h.kp.k a o hm e), fun a c hm b => ?_⟩
  have hm' : M a = 2 := by rw [h.mks a (h.wf0.t a (by rw [hm]; decide))]; exact hm
  have hc : M c = 0 := by
    obtain ⟨i, r, m, k, ns, h1, h2, h3, h4⟩ := b
    rw [h.mks c (by rw [h3]; simp)]; exact h2
  exact (k.b a c hm' ((h.kp.b a c hm b).mk hc)).mk b.zero
theorem S8.keep (h : S8 K M M0 H0 G σ H) (k : Keep M H H') : S8 K M M0 H0 G σ H' := by
  refine ⟨h.wf.keep k, h.wf0, h.mks, h.bg, h.keep0 k, h.len, fun i s e => ?_, h.dis⟩
  have q := h.sl i s e
  cases s with
  | un => exact trivial
  | v d => obtain ⟨v, e1, r⟩ := q; exact ⟨v, e1, r.keep k⟩
  | o ds => obtain ⟨p, vs, e1, m1, f0, e2, l, r⟩ := q; exact ⟨p, vs, e1, m1, f0, k.k p _ (by rw [m1]; decide) e2, l, r.keep k⟩
theorem S8.setv (h : S8 K M M0 H0 G σ H) {i : Nat} {d : D} {v : V} (r : Rep K M H d v) : S8 K M M0 H0 (G.set i (.v d)) (σ.set i (some v)) H := by
  refine ⟨h.wf, h.wf0, h.mks, h.bg, h.kp, by simp [h.len], fun j s e => ?_, fun j l ds es e1 e2 e3 => ?_⟩
  · by_cases hj : i = j
    · subst hj
      rw [List.getElem?_set] at e
      simp at e
      obtain ⟨hl, e⟩ := e
      subst e
      exact ⟨v, by rw [List.getElem?_set_self (by rw [← h.len]; exact hl)], r⟩
    · rw [List.getElem?_set_ne hj] at e ⊢
      exact h.sl j s e
  · have f : ∀ {j : Nat} {ds : List D}, (G.set i (.v d))[j]? = some (.o ds) → i ≠ j ∧ G[j]? = some (.o ds) := fun {j ds} e => by
      by_cases hj : i = j
      · subst hj
        rw [List.getElem?_set] at e
        simp at e
      · rw [List.getElem?_set_ne hj] at e
        exact ⟨hj, e⟩
    obtain ⟨n1, g1⟩ := f e1
    obtain ⟨n2, g2⟩ := f e2
    rw [List.getElem?_set_ne n1, List.getElem?_set_ne n2] at e3
    exact h.dis j l ds es g1 g2 e3
end
section
variable {K : PySem.W.Frag} {M : Mk} {H : Hp}
/-- a new list at D, its maker's own for a while -/
def own (M : Mk) (D : Addr) : Mk := fun a => if a = D then 1 else M a
theorem own_at {D : Addr} : own M D D = 1 := if_pos rfl
theorem own_ne {D a : Addr} (h : a ≠ D) : own M D a = M a := if_neg h
theorem own_two {D a : Addr} (h : own M D a = 2) : a ≠ D ∧ M a = 2 := by
  by_cases e : a = D
  · subst e; rw [own_at] at h; cases h
  · rw [own_ne e] at h; exact ⟨e, h⟩
theorem own_zero {D a : Addr} (h : own M D a = 0) : a ≠ D ∧ M a = 0 := by
  by_cases e : a = D
  · subst e; rw [own_at] at h; cases h
  · rw [own_ne e] at h; exact ⟨e, h⟩
theorem ext_own {D : Addr} {o : HO} (w : Wf M H) (hD : H D = none) : Ext M H (own M D) (upd H D o) := ⟨fun a u hm e => by
  have ne : a ≠ D := fun z => by subst z; rw [hD] at e; cases e
  exact ⟨by rw [own_ne ne]; exact hm, by rw [upd_ne ne]; exact e⟩, fun a hm => by
  by_cases ha : a = D
  · subst ha; exact absurd hD (w.t a (by rw [hm]; decide))
  · rw [own_ne ha]; exact hm⟩
/-- the mark of an own object is taken away -/
theorem ext_unown {D : Addr} : Ext (own M D) H M H := ⟨fun a u hm e => ⟨(own_zero hm).2, e⟩, fun a hm => (own_two hm).2⟩
end
end PL

set_option Elab.async false
set_option linter.all false
set_option maxRecDepth 100000
set_option maxHeartbeats 4000000
namespace PL
open PySem PySem.Spec PyProof.Rows L2

/-! ### readings by data -/
/-- an error by its class and its fields -/
abbrev XD := Addr × List (Str × D)
abbrev XP := XD → Prop
abbrev Gm := List Sl
abbrev TD := Gm → XP → (D → Prop) → Prop
abbrev TDT := Gm → XP → (Bool → Prop) → Prop
abbrev TDA := Gm → XP → (List D → Prop) → Prop
def MonoD {α : Type} (t : Gm → XP → (α → Prop) → Prop) : Prop := ∀ (G : Gm) (x : XP) (Q Q' : α → Prop), (∀ d, Q d → Q' d) → t G x Q → t G x Q'

def FRep (K : PySem.W.Frag) (M : Mk) (H : Hp) (fs : List (Str × D)) (fv : List (Str × V)) : Prop := fs.map (·.1) = fv.map (·.1) ∧ Reps K M H (fs.map (·.2)) (fv.map (·.2))
theorem FRep.ext {K : PySem.W.Frag} {M M' : Mk} {H H' : Hp} {fs : List (Str × D)} {fv : List (Str × V)} (e : Ext M H M' H') (h : FRep K M H fs fv) : FRep K M' H' fs fv := ⟨h.1, h.2.ext e⟩
/-- what is wanted of an error, by data -/
def XOk (K : PySem.W.Frag) (M0 : Mk) (H0 : Hp) (W : XK) (x : XP) : Prop := ∀ (C : Addr) (fs : List (Str × D)) (dx : Addr) (fv : List (Str × V)) (H' : Hp),
  Keep M0 H0 H' → H' dx = some (.xd fv) → FRep K M0 H' fs fv → x (C, fs) → W (.ref C) (some dx) H'
theorem XOk.none {K : PySem.W.Frag} {M0 : Mk} {H0 : Hp} {W : XK} : XOk K M0 H0 W (fun _ => False) := fun _ _ _ _ _ _ _ _ h => h.elim

def liftE (K : PySem.W.Frag) (W : XK) (t : TD) : TE := fun σ H Q => ∃ (M M0 : Mk) (H0 : Hp) (G : Gm) (x : XP), S8 K M M0 H0 G σ H ∧ XOk K M0 H0 W x ∧ t G x (fun d => ∀ v H', Keep M H H' → Rep K M H' d v → Q v H')
def liftT (K : PySem.W.Frag) (W : XK) (t : TDT) : TT := fun σ H Q => ∃ (M M0 : Mk) (H0 : Hp) (G : Gm) (x : XP), S8 K M M0 H0 G σ H ∧ XOk K M0 H0 W x ∧ t G x (fun b => ∀ H', Keep M H H' → Q b H')
def liftA (K : PySem.W.Frag) (W : XK) (t : TDA) : TA := fun σ H Q => ∃ (M M0 : Mk) (H0 : Hp) (G : Gm) (x : XP), S8 K M M0 H0 G σ H ∧ XOk K M0 H0 W x ∧ t G x (fun ds => ∀ vs H', Keep M H H' → Reps K M H' ds vs → Q vs H')
structure PD (X : Cx) (W : XK) (e : Expr) (t : TD) : Prop where
  run : PE X e (liftE X.K W t)
  mono : MonoD t
structure PDT (X : Cx) (W : XK) (e : Expr) (t : TDT) : Prop where
  run : PT X e (liftT X.K W t)
  mono : MonoD t
/-- a test, whatever its whole is -/
structure PDW (X : Cx) (W : XK) (e : Expr) (t : TDT) : Prop where
  run : PW X e (liftT X.K W t)
  mono : MonoD t
structure PDA (X : Cx) (W : XK) (es : List Expr) (t : TDA) : Prop where
  run : PA X es (liftA X.K W t)
  mono : MonoD t
theorem PDW.pt {X : Cx} {W : XK} {e : Expr} {t : TDT} (h : PDW X W e t) : PDT X W e t := ⟨h.run.pt, h.mono⟩

theorem PE.weaken {X : Cx} {e : Expr} {t t' : TE} (h : PE X e t) (w : ∀ σ H Q, t' σ H Q → t σ H Q) : PE X e t' := ⟨fun pins s σ H Q I q => h.run pins s σ H Q I (w _ _ _ q)⟩
theorem PT.weaken {X : Cx} {e : Expr} {t t' : TT} (h : PT X e t) (w : ∀ σ H Q, t' σ H Q → t σ H Q) : PT X e t' := ⟨fun pins s σ H Q I q => h.run pins s σ H Q I (w _ _ _ q)⟩
theorem PW.weaken {X : Cx} {e : Expr} {t t' : TT} (h : PW X e t) (w : ∀ σ H Q, t' σ H Q → t σ H Q) : PW X e t' := ⟨fun wh pins s σ H Q I q => h.run wh pins s σ H Q I (w _ _ _ q)⟩
theorem PA.weaken {X : Cx} {es : List Expr} {t t' : TA} (h : PA X es t) (w : ∀ σ H Q, t' σ H Q → t σ H Q) : PA X es t' := ⟨fun pos pins s σ H Q I q => h.run pos pins s σ H Q I (w _ _ _ q)⟩
theorem PS.weaken {X : Cx} {st : Stmt} {t t' : TS} (h : PS X st t) (w : ∀ D σ H, t' D σ H → t D σ H) : PS X st t' := ⟨fun pins s σ H D I q => h.run pins s σ H D I (w _ _ _ q)⟩
theorem PSs.weaken {X : Cx} {st : List Stmt} {t t' : TS} (h : PSs X st t) (w : ∀ D σ H, t' D σ H → t D σ H) : PSs X st t' := ⟨fun pins s σ H D I q => h.run pins s σ H D I (w _ _ _ q)⟩

section
variable {K : PySem.W.Frag} {W : XK} {M M0 : Mk} {H0 H : Hp} {G : Gm} {x : XP} {σ : L2.St}
theorem liftE_mk {t : TD} {P : D → Prop} {Q : VK} (h : S8 K M M0 H0 G σ H) (hx : XOk K M0 H0 W x) (m : MonoD t) (ht : t G x P)
    (hP : ∀ d v H', S8 K M M0 H0 G σ H' → Keep M H H' → Rep K M H' d v → P d → Q v H') : liftE K W t σ H Q :=
  ⟨M, M0, H0, G, x, h, hx, m G x _ _ (fun d p v H' k r => hP d v H' (h.keep k) k r p) ht⟩
theorem liftT_mk {t : TDT} {P : Bool → Prop} {Q : Bool → Hp → Prop} (h : S8 K M M0 H0 G σ H) (hx : XOk K M0 H0 W x) (m : MonoD t) (ht : t G x P)
    (hP : ∀ b H', S8 K M M0 H0 G σ H' → Keep M H H' → P b → Q b H') : liftT K W t σ H Q :=
  ⟨M, M0, H0, G, x, h, hx, m G x _ _ (fun d p H' k => hP d H' (h.keep k) k p) ht⟩
theorem liftA_mk {t : TDA} {P : List D → Prop} {Q : List V → Hp → Prop} (h : S8 K M M0 H0 G σ H) (hx : XOk K M0 H0 W x) (m : MonoD t) (ht : t G x P)
    (hP : ∀ ds vs H', S8 K M M0 H0 G σ H' → Keep M H H' → Reps K M H' ds vs → P ds → Q vs H') : liftA K W t σ H Q :=
  ⟨M, M0, H0, G, x, h, hx, m G x _ _ (fun d p v H' k r => hP d v H' (h.keep k) k r p) ht⟩
end

/-! ### names, constants -/
def dVar (i : Nat) : TD := fun G _ Q => match G[i]? with
  | some (.v d) => Q d
  | _ => False
def dC (d : D) : TD := fun _ _ Q => Q d
section
variable {X : Cx} {W : XK} {e a b c : Expr} {pos : Pos}
theorem pd_var {i : Nat} (h : PE X e (tVar i)) : PD X W e (dVar i) := by
  refine ⟨PE.weaken h ?_, fun G x Q Q' i h => ?_⟩
  · rintro σ H Q ⟨M, M0, H0, G, x, h, hx, ht⟩
    unfold dVar at ht
    split at ht
    · rename_i d e
      obtain ⟨v, e1, r⟩ := h.sl i _ e
      exact ⟨v, e1, ht v H Keep.refl r⟩
    · exact ht.elim
  · unfold dVar at h ⊢
    split at h
    · exact i _ h
    · exact h.elim
theorem pd_c {v : V} {d : D} (h : PE X e (tC v)) (r : ∀ M H, Rep X.K M H d v) : PD X W e (dC d) :=
  ⟨PE.weaken h fun σ H Q ⟨M, M0, H0, G, x, h, hx, ht⟩ => ht v H Keep.refl (r M H), fun _ _ _ _ i h => i _ h⟩
theorem pd_int {i : Int} {j pos} : PD X W (.Constant (.int i) j pos) (dC (.int i)) := pd_c pe_int fun _ _ => by unfold Rep; rfl
theorem pd_bl {i : Bool} {j pos} : PD X W (.Constant (.bool i) j pos) (dC (.bl i)) := pd_c pe_bl fun _ _ => by unfold Rep; rfl
theorem pd_non {j pos} : PD X W (.Constant .none j pos) (dC .non) := pd_c pe_non fun _ _ => by unfold Rep; rfl
theorem pd_str {i : Str} {j pos} : PD X W (.Constant (.str i) j pos) (dC (.str i)) := pd_c pe_str fun _ _ => by unfold Rep; rfl

/-! ### two-place operations -/
/-- r, an operation on values, is rd on data -/
def OpD (K : PySem.W.Frag) (r : R2) (rd : D → D → (D → Prop) → Prop) : Prop := ∀ (M : Mk) (H : Hp) (x y : D) (v u : V) (P : D → Prop) (Q : VK), Wf M H → Rep K M H x v → Rep K M H y u → rd x y P →
  (∀ d w H', Keep M H H' → Rep K M H' d w → P d → Q w H') → r v u H Q
def Mono2 (rd : D → D → (D → Prop) → Prop) : Prop := ∀ x y P P', (∀ d, P d → P' d) → rd x y P → rd x y P'
def dOp (rd : D → D → (D → Prop) → Prop) (ta tb : TD) : TD := fun G x Q => ta G x fun d => tb G x fun e => rd d e Q
theorem mono_op {rd : D → D → (D → Prop) → Prop} {ta tb : TD} (m : Mono2 rd) (ma : MonoD ta) (mb : MonoD tb) : MonoD (dOp rd ta tb) :=
  fun G x Q Q' i h => ma G x _ _ (fun d h => mb G x _ _ (fun e h => m d e _ _ i h) h) h
theorem lift_op {K : PySem.W.Frag} {r : R2} {rd : D → D → (D → Prop) → Prop} {ta tb : TD} (hd : OpD K r rd) (ma : MonoD ta) (mb : MonoD tb) {σ : L2.St} {H : Hp} {Q : VK}
    (h : liftE K W (dOp rd ta tb) σ H Q) : tOp r (liftE K W ta) (liftE K W tb) σ H Q := by
  obtain ⟨M, M0, H0, G, x, h, hx, ht⟩ := h
  refine liftE_mk h hx ma ht fun d v H1 h1 k1 r1 p1 => ?_
  refine liftE_mk h1 hx mb p1 fun e u H2 h2 k2 r2 p2 => ?_
  exact hd M H2 d e v u _ Q h2.wf (r1.keep k2) r2 p2 fun f w H3 k3 r3 q => q w H3 ((k1.trans k2).trans k3) r3
theorem pd_op {op : Operator} {r : R2} {rd : D → D → (D → Prop) → Prop} {ta tb : TD} (ho : OpR X (binaryOp op) r) (hd : OpD X.K r rd) (m : Mono2 rd) (ha : PD X W a ta) (hb : PD X W b tb) : PD X W (.BinOp a op b pos) (dOp rd ta tb) :=
  ⟨PE.weaken (pe_op ho ha.run hb.run) fun _ _ _ h => lift_op hd ha.mono hb.mono h, mono_op m ha.mono hb.mono⟩
theorem pd_cmp {op : CmpOp} {r : R2} {rd : D → D → (D → Prop) → Prop} {ta tb : TD} (ho : OpR X (compareOp op) r) (hd : OpD X.K r rd) (m : Mono2 rd) (ha : PD X W a ta) (hb : PD X W b tb) (hm : behindInMarks op b = false) : PD X W (.Compare a [op] [b] pos) (dOp rd ta tb) :=
  ⟨PE.weaken (pe_cmpR ho ha.run hb.run hm) fun _ _ _ h => lift_op hd ha.mono hb.mono h, mono_op m ha.mono hb.mono⟩
/-- a value that is a bool, as a test -/
def dTest (t : TD) : TDT := fun G x Q => t G x fun d => match d with
  | .bl b => Q b
  | _ => False
theorem mono_test {t : TD} (m : MonoD t) : MonoD (dTest t) := fun G x Q Q' i h => m G x _ _ (fun d h => by
  cases d <;> first | exact i _ h | exact h) h
theorem lift_test {K : PySem.W.Frag} {t : TD} (m : MonoD t) {σ : L2.St} {H : Hp} {Q : Bool → Hp → Prop} (h : liftT K W (dTest t) σ H Q) : liftE K W t σ H (fun x H' => ∃ k, x = .bl k ∧ Q k H') := by
  obtain ⟨M, M0, H0, G, x, h, hx, ht⟩ := h
  refine liftE_mk h hx m ht fun d v H1 h1 k1 r1 p1 => ?_
  cases d with
  | bl b => unfold Rep at r1; exact ⟨b, r1, p1 H1 k1⟩
  | _ => exact p1.elim
theorem pdt_cmp {op : CmpOp} {r : R2} {rd : D → D → (D → Prop) → Prop} {ta tb : TD} (ho : OpR X (compareOp op) r) (hd : OpD X.K r rd) (m : Mono2 rd) (ha : PD X W a ta) (hb : PD X W b tb) (hm : behindInMarks op b = false) : PDT X W (.Compare a [op] [b] pos) (dTest (dOp rd ta tb)) := by
  refine ⟨PT.weaken (pt_cmpR ho ha.run hb.run hm) fun σ H Q h => ?_, mono_test (mono_op m ha.mono hb.mono)⟩
  obtain ⟨M, M0, H0, G, x, h, hx, ht⟩ := h
  have h' : liftE X.K W (dOp rd ta tb) σ H (fun x H' => ∃ k, x = .bl k ∧ Q k H') := lift_test (mono_op m ha.mono hb.mono) ⟨M, M0, H0, G, x, h, hx, ht⟩
  exact lift_op hd ha.mono hb.mono h'
/-- an expression whose value is a bool, as a test -/
theorem pdt_val {t : TD} (h : PD X W e t) (he : ∀ whole, isTrue e X.env whole = (do let v ← whole; standAt e.pos; holding [v] (truthy v)) := by intro _; rfl) : PDT X W e (dTest t) :=
  ⟨PT.weaken (pt_val h.run he) fun _ _ _ h' => lift_test h.mono h', mono_test h.mono⟩

/-! ### and, or, not, if else -/
def dAnd (t u : TDT) : TDT := fun G x Q => t G x fun b => (b = true → u G x Q) ∧ (b = false → Q false)
def dOr (t u : TDT) : TDT := fun G x Q => t G x fun b => (b = true → Q true) ∧ (b = false → u G x Q)
def dNot (t : TDT) : TDT := fun G x Q => t G x fun b => Q (!b)
theorem mono_and {t u : TDT} (m : MonoD t) (n : MonoD u) : MonoD (dAnd t u) := fun G x Q Q' i h => m G x _ _ (fun b h => ⟨fun e => n G x _ _ i (h.1 e), fun e => i _ (h.2 e)⟩) h
theorem mono_or {t u : TDT} (m : MonoD t) (n : MonoD u) : MonoD (dOr t u) := fun G x Q Q' i h => m G x _ _ (fun b h => ⟨fun e => i _ (h.1 e), fun e => n G x _ _ i (h.2 e)⟩) h
theorem mono_not {t : TDT} (m : MonoD t) : MonoD (dNot t) := fun G x Q Q' i h => m G x _ _ (fun b h => i _ h) h
variable {ta tb : TDT} {rest : List Expr}
theorem pdw_and1 (ha : PDT X W a ta) : PDW X W (.BoolOp .And [a] pos) ta := ⟨pw_and1 ha.run, ha.mono⟩
theorem pdw_or1 (ha : PDT X W a ta) : PDW X W (.BoolOp .Or [a] pos) ta := ⟨pw_or1 ha.run, ha.mono⟩
theorem pdw_and (ha : PDT X W a ta) (hb : PDW X W (.BoolOp .And (b :: rest) pos) tb) : PDW X W (.BoolOp .And (a :: b :: rest) pos) (dAnd ta tb) := by
  refine ⟨PW.weaken (pw_and ha.run hb.run) fun σ H Q h => ?_, mono_and ha.mono hb.mono⟩
  obtain ⟨M, M0, H0, G, x, h, hx, ht⟩ := h
  refine liftT_mk h hx ha.mono ht fun k H1 h1 k1 p1 => ?_
  cases k with
  | true => exact liftT_mk h1 hx hb.mono (p1.1 rfl) fun k2 H2 h2 kk p2 => p2 H2 (k1.trans kk)
  | false => exact p1.2 rfl H1 k1
theorem pdw_or (ha : PDT X W a ta) (hb : PDW X W (.BoolOp .Or (b :: rest) pos) tb) : PDW X W (.BoolOp .Or (a :: b :: rest) pos) (dOr ta tb) := by
  refine ⟨PW.weaken (pw_or ha.run hb.run) fun σ H Q h => ?_, mono_or ha.mono hb.mono⟩
  obtain ⟨M, M0, H0, G, x, h, hx, ht⟩ := h
  refine liftT_mk h hx ha.mono ht fun k H1 h1 k1 p1 => ?_
  cases k with
  | true => exact p1.1 rfl H1 k1
  | false => exact liftT_mk h1 hx hb.mono (p1.2 rfl) fun k2 H2 h2 kk p2 => p2 H2 (k1.trans kk)
theorem pdt_not (ha : PDT X W a ta) : PDT X W (.UnaryOp .Not a pos) (dNot ta) := by
  refine ⟨PT.weaken (pt_not ha.run) fun σ H Q h => ?_, mono_not ha.mono⟩
  obtain ⟨M, M0, H0, G, x, h, hx, ht⟩ := h
  exact liftT_mk h hx ha.mono ht fun k H1 h1 k1 p1 => p1 H1 k1
/-- as values: all but the last are bools -/
def dAndV (t u : TD) : TD := fun G x Q => t G x fun d => match d with
  | .bl b => (b = true → u G x Q) ∧ (b = false → Q (.bl false))
  | _ => False
def dOrV (t u : TD) : TD := fun G x Q => t G x fun d => match d with
  | .bl b => (b = true → Q (.bl true)) ∧ (b = false → u G x Q)
  | _ => False
def dNotV (t : TD) : TD := fun G x Q => t G x fun d => match d with
  | .bl b => Q (.bl (!b))
  | _ => False
variable {va vb : TD}
theorem mono_andV {t u : TD} (m : MonoD t) (n : MonoD u) : MonoD (dAndV t u) := fun G x Q Q' i h => m G x _ _ (fun d h => by
  cases d <;> first | exact ⟨fun e => n G x _ _ i (h.1 e), fun e => i _ (h.2 e)⟩ | exact h) h
theorem mono_orV {t u : TD} (m : MonoD t) (n : MonoD u) : MonoD (dOrV t u) := fun G x Q Q' i h => m G x _ _ (fun d h => by
  cases d <;> first | exact ⟨fun e => i _ (h.1 e), fun e => n G x _ _ i (h.2 e)⟩ | exact h) h
theorem mono_notV {t : TD} (m : MonoD t) : MonoD (dNotV t) := fun G x Q Q' i h => m G x _ _ (fun d h => by
  cases d <;> first | exact i _ h | exact h) h
theorem pd_one {op} {t : TD} (h : PD X W a t) : PD X W (.BoolOp op [a] pos) t := ⟨pe_one h.run, h.mono⟩
theorem pd_and (ha : PD X W a va) (hb : PD X W (.BoolOp .And (b :: rest) pos) vb) : PD X W (.BoolOp .And (a :: b :: rest) pos) (dAndV va vb) := by
  refine ⟨PE.weaken (pe_and ha.run hb.run) fun σ H Q h => ?_, mono_andV ha.mono hb.mono⟩
  obtain ⟨M, M0, H0, G, x, h, hx, ht⟩ := h
  refine liftE_mk h hx ha.mono ht fun d v H1 h1 k1 r1 p1 => ?_
  cases d with
  | bl c =>
    unfold Rep at r1
    refine ⟨c, r1, ?_⟩
    cases c with
    | true => exact liftE_mk h1 hx hb.mono (p1.1 rfl) fun d2 v2 H2 h2 kk r2 p2 => p2 v2 H2 (k1.trans kk) r2
    | false => exact p1.2 rfl _ H1 k1 (by unfold Rep; rfl)
  | _ => exact p1.elim
theorem pd_or (ha : PD X W a va) (hb : PD X W (.BoolOp .Or (b :: rest) pos) vb) : PD X W (.BoolOp .Or (a :: b :: rest) pos) (dOrV va vb) := by
  refine ⟨PE.weaken (pe_or ha.run hb.run) fun σ H Q h => ?_, mono_orV ha.mono hb.mono⟩
  obtain ⟨M, M0, H0, G, x, h, hx, ht⟩ := h
  refine liftE_mk h hx ha.mono ht fun d v H1 h1 k1 r1 p1 => ?_
  cases d with
  | bl c =>
    unfold Rep at r1
    refine ⟨c, r1, ?_⟩
    cases c with
    | true => exact p1.1 rfl _ H1 k1 (by unfold Rep; rfl)
    | false => exact liftE_mk h1 hx hb.mono (p1.2 rfl) fun d2 v2 H2 h2 kk r2 p2 => p2 v2 H2 (k1.trans kk) r2
  | _ => exact p1.elim
theorem pd_not (ha : PD X W a va) : PD X W (.UnaryOp .Not a pos) (dNotV va) := by
  refine ⟨PE.weaken (pe_not ha.run) fun σ H Q h => ?_, mono_notV ha.mono⟩
  obtain ⟨M, M0, H0, G, x, h, hx, ht⟩ := h
  refine liftE_mk h hx ha.mono ht fun d v H1 h1 k1 r1 p1 => ?_
  cases d with
  | bl c => unfold Rep at r1; exact ⟨c, r1, p1 _ H1 k1 (by unfold Rep; rfl)⟩
  | _ => exact p1.elim
def dIf (t : TDT) (a b : TD) : TD := fun G x Q => t G x fun k => (k = true → a G x Q) ∧ (k = false → b G x Q)
theorem pd_ifExp (hc : PDT X W c ta) (ha : PD X W a va) (hb : PD X W b vb) : PD X W (.IfExp c a b pos) (dIf ta va vb) := by
  refine ⟨PE.weaken (pe_ifExp hc.run ha.run hb.run) fun σ H Q h => ?_, fun G x Q Q' i h => hc.mono G x _ _ (fun k h => ⟨fun e => ha.mono G x _ _ i (h.1 e), fun e => hb.mono G x _ _ i (h.2 e)⟩) h⟩
  obtain ⟨M, M0, H0, G, x, h, hx, ht⟩ := h
  refine liftT_mk h hx hc.mono ht fun k H1 h1 k1 p1 => ?_
  cases k with
  | true => exact liftE_mk h1 hx ha.mono (p1.1 rfl) fun d2 v2 H2 h2 kk r2 p2 => p2 v2 H2 (k1.trans kk) r2
  | false => exact liftE_mk h1 hx hb.mono (p1.2 rfl) fun d2 v2 H2 h2 kk r2 p2 => p2 v2 H2 (k1.trans kk) r2

/-! ### one-place operations, chains -/
def UnD (K : PySem.W.Frag) (r : V → Hp → VK → Prop) (rd : D → (D → Prop) → Prop) : Prop := ∀ (M : Mk) (H : Hp) (x : D) (v : V) (P : D → Prop) (Q : VK), Wf M H → Rep K M H x v → rd x P →
  (∀ d w H', Keep M H H' → Rep K M H' d w → P d → Q w H') → r v H Q
def Mono1 {α : Type} (rd : α → (D → Prop) → Prop) : Prop := ∀ x P P', (∀ d, P d → P' d) → rd x P → rd x P'
def dUn (rd : D → (D → Prop) → Prop) (ta : TD) : TD := fun G x Q => ta G x fun d => rd d Q
theorem pd_un {op : UnaryOp} {r : V → Hp → VK → Prop} {rd : D → (D → Prop) → Prop} (ho : UnR X (unaryOp op) r) (hd : UnD X.K r rd) (m : Mono1 rd) (ha : PD X W a va) : PD X W (.UnaryOp op a pos) (dUn rd va) := by
  refine ⟨PE.weaken (pe_un ho ha.run) fun σ H Q h => ?_, fun G x Q Q' i h => ha.mono G x _ _ (fun d h => m d _ _ i h) h⟩
  obtain ⟨M, M0, H0, G, x, h, hx, ht⟩ := h
  refine liftE_mk h hx ha.mono ht fun d v H1 h1 k1 r1 p1 => ?_
  exact hd M H1 d v _ Q h1.wf r1 p1 fun f w H3 k3 r3 q => q w H3 (k1.trans k3) r3
variable {vc : TD}
def dChain (r r' : D → D → (D → Prop) → Prop) (ta tb tc : TD) : TD := fun G x Q => ta G x fun d => tb G x fun e => r d e fun z => match z with
  | .bl k => (k = true → tc G x fun f => r' e f Q) ∧ (k = false → Q (.bl false))
  | _ => False
end
end PL

set_option Elab.async false
set_option linter.all false
set_option maxRecDepth 100000
set_option maxHeartbeats 4000000
namespace PL
open PySem PySem.Spec PyProof.Rows L2

/-! ### chains of comparisons -/
section
variable {X : Cx} {W : XK} {e a b c : Expr} {pos : Pos} {va vb vc : TD}
theorem mono_chain {r r' : D → D → (D → Prop) → Prop} (m : Mono2 r) (m' : Mono2 r') {ta tb tc : TD} (ma : MonoD ta) (mb : MonoD tb) (mc : MonoD tc) : MonoD (dChain r r' ta tb tc) :=
  fun G x Q Q' i h => ma G x _ _ (fun d h => mb G x _ _ (fun e h => m d e _ _ (fun z h => by
    cases z with
    | bl k => exact ⟨fun q => mc G x _ _ (fun f h => m' e f _ _ i h) (h.1 q), fun q => i _ (h.2 q)⟩
    | _ => exact h.elim) h) h) h
theorem lift_chain {K : PySem.W.Frag} {r r' : R2} {rd rd' : D → D → (D → Prop) → Prop} {ta tb tc : TD} (hd : OpD K r rd) (hd' : OpD K r' rd') (ma : MonoD ta) (mb : MonoD tb) (mc : MonoD tc) {σ : L2.St} {H : Hp} {Q : VK}
    (h : liftE K W (dChain rd rd' ta tb tc) σ H Q) : tChain r r' (liftE K W ta) (liftE K W tb) (liftE K W tc) σ H Q := by
  obtain ⟨M, M0, H0, G, x, h, hx, ht⟩ := h
  refine liftE_mk h hx ma ht fun d v H1 h1 k1 r1 p1 => ?_
  refine liftE_mk h1 hx mb p1 fun e u H2 h2 k2 r2 p2 => ?_
  refine hd M H2 d e v u _ _ h2.wf (r1.keep k2) r2 p2 fun z w H3 k3 r3 q => ?_
  cases z with
  | bl k =>
    unfold Rep at r3
    refine ⟨k, r3, ?_⟩
    have h3 := h2.keep k3
    cases k with
    | true =>
      refine liftE_mk h3 hx mc (q.1 rfl) fun f w' H4 h4 k4 r4 p4 => ?_
      exact hd' M H4 e f u w' _ Q h4.wf (r2.keep (k3.trans k4)) r4 p4 fun g w2 H5 k5 r5 q5 => q5 w2 H5 ((((k1.trans k2).trans k3).trans k4).trans k5) r5
    | false => exact q.2 rfl _ H3 ((k1.trans k2).trans k3) (by unfold Rep; rfl)
  | _ => exact q.elim
theorem pd_chain {op op' : CmpOp} {r r' : R2} {rd rd' : D → D → (D → Prop) → Prop} (ho : OpR X (compareOp op) r) (ho' : OpR X (compareOp op') r') (hd : OpD X.K r rd) (hd' : OpD X.K r' rd') (m : Mono2 rd) (m' : Mono2 rd')
    (ha : PD X W a va) (hb : PD X W b vb) (hc : PD X W c vc) (hm : lastMarks [op, op'] [b, c] = false := by with_unfolding_all rfl) : PD X W (.Compare a [op, op'] [b, c] pos) (dChain rd rd' va vb vc) :=
  ⟨PE.weaken (pe_chain ho ho' ha.run hb.run hc.run hm) fun _ _ _ h => lift_chain hd hd' ha.mono hb.mono hc.mono h, mono_chain m m' ha.mono hb.mono hc.mono⟩
theorem pdt_chain {op op' : CmpOp} {r r' : R2} {rd rd' : D → D → (D → Prop) → Prop} (ho : OpR X (compareOp op) r) (ho' : OpR X (compareOp op') r') (hd : OpD X.K r rd) (hd' : OpD X.K r' rd') (m : Mono2 rd) (m' : Mono2 rd')
    (ha : PD X W a va) (hb : PD X W b vb) (hc : PD X W c vc) (hm : lastMarks [op, op'] [b, c] = false := by with_unfolding_all rfl) : PDT X W (.Compare a [op, op'] [b, c] pos) (dTest (dChain rd rd' va vb vc)) := by
  refine ⟨PT.weaken (pt_chain ho ho' ha.run hb.run hc.run hm) fun σ H Q h => ?_, mono_test (mono_chain m m' ha.mono hb.mono hc.mono)⟩
  exact lift_chain hd hd' ha.mono hb.mono hc.mono (lift_test (mono_chain m m' ha.mono hb.mono hc.mono) h)
end

/-! ### argument lists, displays -/
def aNil : TDA := fun _ _ Q => Q []
def aCons (t : TD) (r : TDA) : TDA := fun G x Q => t G x fun d => r G x fun ds => Q (d :: ds)
section
variable {X : Cx} {W : XK} {e : Expr} {es : List Expr} {pos : Pos} {t : TD} {ta : TDA}
theorem pda_nil : PDA X W [] aNil := ⟨PA.weaken pa_nil fun σ H Q ⟨M, M0, H0, G, x, h, hx, ht⟩ => ht [] H Keep.refl Reps.nil, fun _ _ _ _ i h => i _ h⟩
theorem pda_cons (ha : PD X W e t) (hr : PDA X W es ta) (hs : starEach (e :: es) X.env = (false, eval e X.env) :: starEach es X.env := by rfl) : PDA X W (e :: es) (aCons t ta) := by
  refine ⟨PA.weaken (pa_cons ha.run hr.run hs) fun σ H Q h => ?_, fun G x Q Q' i h => ha.mono G x _ _ (fun d h => hr.mono G x _ _ (fun ds h => i _ h) h) h⟩
  obtain ⟨M, M0, H0, G, x, h, hx, ht⟩ := h
  refine liftE_mk h hx ha.mono ht fun d v H1 h1 k1 r1 p1 => ?_
  refine liftA_mk h1 hx hr.mono p1 fun ds vs H2 h2 k2 r2 p2 => ?_
  exact p2 _ H2 (k1.trans k2) (Reps.cons (r1.keep k2) r2)
def dTup (ta : TDA) : TD := fun G x Q => ta G x fun ds => ds.length ≤ sizeLine ∧ Q (.tup ds)
theorem rep_newT {K : PySem.W.Frag} {M : Mk} {H : Hp} {ds : List D} {vs : List V} {p : Addr} (w : Wf M H) (r : Reps K M H ds vs) (z : ds.length ≤ sizeLine) (hp : H p = none) : Rep K M (upd H p (.tup vs)) (.tup ds) (.ref p) := by
  unfold Rep
  exact ⟨p, vs, rfl, .inl ⟨w.zero hp, upd_same⟩, z, r.keep (Keep.new hp)⟩
theorem rep_newL {K : PySem.W.Frag} {M : Mk} {H : Hp} {ds : List D} {vs : List V} {p : Addr} (w : Wf M H) (r : Reps K M H ds vs) (z : ds.length ≤ sizeLine) (hp : H p = none) : Rep K M (upd H p (.lst vs)) (.lst ds) (.ref p) := by
  unfold Rep
  exact ⟨p, vs, rfl, ⟨w.zero hp, upd_same⟩, z, r.keep (Keep.new hp)⟩
theorem pd_tup {x1} (ha : PDA X W es ta) : PD X W (.Tuple es x1 pos) (dTup ta) := by
  refine ⟨PE.weaken (pe_tup ha.run) fun σ H Q h => ?_, fun G x Q Q' i h => ha.mono G x _ _ (fun d h => ⟨h.1, i _ h.2⟩) h⟩
  obtain ⟨M, M0, H0, G, x, h, hx, ht⟩ := h
  refine liftA_mk h hx ha.mono ht fun ds vs H1 h1 k1 r1 p1 => ⟨by rw [← r1.length]; exact p1.1, fun p hp => ?_⟩
  exact p1.2 _ _ (k1.trans (Keep.new hp)) (rep_newT h1.wf r1 p1.1 hp)

/-! ### a new list, of nobody else -/
abbrev TDF := Gm → XP → (List D → Prop) → Prop
def liftF (K : PySem.W.Frag) (W : XK) (t : TDF) : TE := fun σ H Q => ∃ (M M0 : Mk) (H0 : Hp) (G : Gm) (x : XP), S8 K M M0 H0 G σ H ∧ XOk K M0 H0 W x ∧
  t G x (fun ds => ∀ p vs H', Keep M H H' → H p = none → H' p = some (.lst vs) → ds.length ≤ sizeLine → Reps K (own M p) H' ds vs → Q (.ref p) H')
structure PDF (X : Cx) (W : XK) (e : Expr) (t : TDF) : Prop where
  run : PE X e (liftF X.K W t)
  mono : MonoD t
def dNew (t : TDF) : TD := fun G x Q => t G x fun ds => Q (.lst ds)
theorem PDF.pd {tf : TDF} (h : PDF X W e tf) : PD X W e (dNew tf) := by
  refine ⟨PE.weaken h.run fun σ H Q q => ?_, fun G x Q Q' i q => h.mono G x _ _ (fun d q => i _ q) q⟩
  obtain ⟨M, M0, H0, G, x, hs, hx, ht⟩ := q
  refine ⟨M, M0, H0, G, x, hs, hx, h.mono G x _ _ (fun ds q p vs H' k hp e z r => q (.ref p) H' k ?_) ht⟩
  unfold Rep
  exact ⟨p, vs, rfl, ⟨hs.wf.zero hp, e⟩, z, r.ext ext_unown⟩
def fLst (ta : TDA) : TDF := fun G x Q => ta G x fun ds => ds.length ≤ sizeLine ∧ Q ds
theorem pdf_lst (ha : PDA X W es ta) : PDF X W (.List es pos) (fLst ta) := by
  refine ⟨PE.weaken (pe_lst ha.run) fun σ H Q h => ?_, fun G x Q Q' i h => ha.mono G x _ _ (fun d h => ⟨h.1, i _ h.2⟩) h⟩
  obtain ⟨M, M0, H0, G, x, h, hx, ht⟩ := h
  refine liftA_mk h hx ha.mono ht fun ds vs H1 h1 k1 r1 p1 => ⟨by rw [← r1.length]; exact p1.1, fun p hp => ?_⟩
  have hp0 : H p = none := by
    cases q : H p with
    | none => rfl
    | some o => exact absurd hp (k1.some h.wf (by rw [q]; simp))
  exact p1.2 p vs _ (k1.trans (Keep.new hp)) hp0 upd_same p1.1 (r1.ext (ext_own h1.wf hp))
end

/-! ### operations on whole numbers -/
section
variable {K : PySem.W.Frag}
/-- two ints in, under C -/
def oI (C : Int → Int → Prop) (g : Int → Int → D) : D → D → (D → Prop) → Prop := fun x y P => match x, y with
  | .int i, .int j => C i j ∧ P (g i j)
  | _, _ => False
theorem mono_oI {C : Int → Int → Prop} {g : Int → Int → D} : Mono2 (oI C g) := fun x y P P' i h => by
  cases x <;> cases y <;> first | exact ⟨h.1, i _ h.2⟩ | exact h.elim
theorem od_I {C : Int → Int → Prop} {g : Int → Int → V} {gd : Int → Int → D} (hg : ∀ M H i j, Rep K M H (gd i j) (g i j)) : OpD K (rI C g) (oI C gd) := by
  intro M H x y v u P Q w rx ry h q
  cases x <;> try exact h.elim
  cases y <;> try exact h.elim
  unfold Rep at rx ry
  exact ⟨_, _, rx, ry, h.1, q _ _ H Keep.refl (hg M H _ _) h.2⟩
def oI0 (g : Int → Int → D) : D → D → (D → Prop) → Prop := fun x y P => match x, y with
  | .int i, .int j => P (g i j)
  | _, _ => False
theorem mono_oI0 {g : Int → Int → D} : Mono2 (oI0 g) := fun x y P P' i h => by
  cases x <;> cases y <;> first | exact i _ h | exact h.elim
theorem od_I0 {g : Int → Int → V} {gd : Int → Int → D} (hg : ∀ M H i j, Rep K M H (gd i j) (g i j)) : OpD K (rI0 g) (oI0 gd) := by
  intro M H x y v u P Q w rx ry h q
  cases x <;> try exact h.elim
  cases y <;> try exact h.elim
  unfold Rep at rx ry
  exact ⟨_, _, rx, ry, q _ _ H Keep.refl (hg M H _ _) h⟩
def uI (g : Int → D) : D → (D → Prop) → Prop := fun x P => match x with
  | .int i => P (g i)
  | _ => False
theorem mono_uI {g : Int → D} : Mono1 (uI g) := fun x P P' i h => by cases x <;> first | exact i _ h | exact h.elim
theorem ud_I {g : Int → V} {gd : Int → D} (hg : ∀ M H i, Rep K M H (gd i) (g i)) : UnD K (rU g) (uI gd) := by
  intro M H x v P Q w rx h q
  cases x <;> try exact h.elim
  unfold Rep at rx
  exact ⟨_, rx, q _ _ H Keep.refl (hg M H _) h⟩
theorem rep_int {M : Mk} {H : Hp} {i : Int} : Rep K M H (.int i) (.int i) := by unfold Rep; rfl
theorem rep_bl {M : Mk} {H : Hp} {i : Bool} : Rep K M H (.bl i) (.bl i) := by unfold Rep; rfl
theorem rep_str {M : Mk} {H : Hp} {i : Str} : Rep K M H (.str i) (.str i) := by unfold Rep; rfl
theorem rep_non {M : Mk} {H : Hp} : Rep K M H .non .non := by unfold Rep; rfl
abbrev oSub := oI0 fun i j => .int (i - j)
abbrev oMul := oI CMulX fun i j => .int (i * j)
abbrev oDiv := oI (fun i j => CDivW i j ∨ CDivN i j) fun i j => .int (i.fdiv j)
abbrev oMod := oI (fun _ j => j ≠ 0) fun i j => .int (i.fmod j)
abbrev oPow := oI CPow fun i j => .int (i ^ j.toNat)
abbrev oLt := oI0 fun i j => .bl (decide (i < j))
abbrev oLe := oI0 fun i j => .bl (decide (i ≤ j))
abbrev oGt := oI0 fun i j => .bl (decide (j < i))
abbrev oGe := oI0 fun i j => .bl (decide (j ≤ i))
abbrev uNeg := uI fun i => .int (-i)
end
section
variable {X : Cx} {W : XK} {e a b : Expr} {pos : Pos} {va vb : TD}
theorem pd_sub (ha : PD X W a va) (hb : PD X W b vb) : PD X W (.BinOp a .Sub b pos) (dOp oSub va vb) := pd_op op_sub (od_I0 fun _ _ _ _ => rep_int) mono_oI0 ha hb
theorem op_divA : OpR X (binaryOp .FloorDiv) (rI (fun i j => CDivW i j ∨ CDivN i j) fun i j => .int (i.fdiv j)) := by
  intro pins s σ H x y v u Q I rx ry h
  obtain ⟨i, j, e1, e2, c, q⟩ := h
  rcases c with c | c
  · exact op_fdivW pins s σ H x y v u Q I rx ry ⟨i, j, e1, e2, c, by
      show Q (V.int (i / j)) H
      rw [← Int.fdiv_eq_ediv_of_nonneg i (by have := c.1; omega)]; exact q⟩
  · exact op_fdivN pins s σ H x y v u Q I rx ry ⟨i, j, e1, e2, c, q⟩
theorem pd_mul0 (ha : PD X W a va) (hb : PD X W b vb) : PD X W (.BinOp a .Mult b pos) (dOp oMul va vb) := pd_op op_mulX (od_I fun _ _ _ _ => rep_int) mono_oI ha hb
theorem pd_fdiv (ha : PD X W a va) (hb : PD X W b vb) : PD X W (.BinOp a .FloorDiv b pos) (dOp oDiv va vb) := pd_op op_divA (od_I fun _ _ _ _ => rep_int) mono_oI ha hb
theorem pd_mod (ha : PD X W a va) (hb : PD X W b vb) : PD X W (.BinOp a .Mod b pos) (dOp oMod va vb) := pd_op op_modN (od_I fun _ _ _ _ => rep_int) mono_oI ha hb
theorem pd_pow (ha : PD X W a va) (hb : PD X W b vb) : PD X W (.BinOp a .Pow b pos) (dOp oPow va vb) := pd_op op_pow (od_I fun _ _ _ _ => rep_int) mono_oI ha hb
theorem pd_neg (ha : PD X W a va) : PD X W (.UnaryOp .USub a pos) (dUn uNeg va) := pd_un un_neg (ud_I fun _ _ _ => rep_int) mono_uI ha
theorem pd_lt (ha : PD X W a va) (hb : PD X W b vb) : PD X W (.Compare a [.Lt] [b] pos) (dOp oLt va vb) := pd_cmp op_lt (od_I0 fun _ _ _ _ => rep_bl) mono_oI0 ha hb (nomark _)
theorem pd_le (ha : PD X W a va) (hb : PD X W b vb) : PD X W (.Compare a [.LtE] [b] pos) (dOp oLe va vb) := pd_cmp op_le (od_I0 fun _ _ _ _ => rep_bl) mono_oI0 ha hb (nomark _)
theorem pd_gt (ha : PD X W a va) (hb : PD X W b vb) : PD X W (.Compare a [.Gt] [b] pos) (dOp oGt va vb) := pd_cmp op_gt (od_I0 fun _ _ _ _ => rep_bl) mono_oI0 ha hb (nomark _)
theorem pd_ge (ha : PD X W a va) (hb : PD X W b vb) : PD X W (.Compare a [.GtE] [b] pos) (dOp oGe va vb) := pd_cmp op_ge (od_I0 fun _ _ _ _ => rep_bl) mono_oI0 ha hb (nomark _)
theorem pdt_lt (ha : PD X W a va) (hb : PD X W b vb) : PDT X W (.Compare a [.Lt] [b] pos) (dTest (dOp oLt va vb)) := pdt_cmp op_lt (od_I0 fun _ _ _ _ => rep_bl) mono_oI0 ha hb (nomark _)
theorem pdt_le (ha : PD X W a va) (hb : PD X W b vb) : PDT X W (.Compare a [.LtE] [b] pos) (dTest (dOp oLe va vb)) := pdt_cmp op_le (od_I0 fun _ _ _ _ => rep_bl) mono_oI0 ha hb (nomark _)
theorem pdt_gt (ha : PD X W a va) (hb : PD X W b vb) : PDT X W (.Compare a [.Gt] [b] pos) (dTest (dOp oGt va vb)) := pdt_cmp op_gt (od_I0 fun _ _ _ _ => rep_bl) mono_oI0 ha hb (nomark _)
theorem pdt_ge (ha : PD X W a va) (hb : PD X W b vb) : PDT X W (.Compare a [.GtE] [b] pos) (dTest (dOp oGe va vb)) := pdt_cmp op_ge (od_I0 fun _ _ _ _ => rep_bl) mono_oI0 ha hb (nomark _)
end

/-! ### + of numbers, texts, lists, tuples -/
def oAdd : D → D → (D → Prop) → Prop := fun x y P => match x, y with
  | .int i, .int j => P (.int (i + j))
  | .str i, .str j => i.length + j.length ≤ sizeLine ∧ P (.str (i ++ j))
  | .lst xs, .lst ys => xs.length + ys.length ≤ sizeLine ∧ P (.lst (xs ++ ys))
  | .tup xs, .tup ys => xs.length + ys.length ≤ sizeLine ∧ P (.tup (xs ++ ys))
  | _, _ => False
theorem mono_oAdd : Mono2 oAdd := fun x y P P' i h => by
  cases x <;> cases y <;> first | exact i _ h | exact ⟨h.1, i _ h.2⟩ | exact h.elim
/-- * of numbers, of a list and a number -/
def oMulA : D → D → (D → Prop) → Prop := fun x y P => match x, y with
  | .int i, .int j => CMulX i j ∧ P (.int (i * j))
  | .lst xs, .int k => -(2 ^ 63) ≤ k ∧ k < 2 ^ 63 ∧ xs.length * k.toNat ≤ sizeLine ∧ P (.lst (List.replicate k.toNat xs).flatten)
  | _, _ => False
theorem mono_oMulA : Mono2 oMulA := fun x y P P' i h => by
  cases x <;> cases y <;> first | exact ⟨h.1, i _ h.2⟩ | exact ⟨h.1, h.2.1, h.2.2.1, i _ h.2.2.2⟩ | exact h.elim
section
variable {K : PySem.W.Frag} {M : Mk} {H : Hp}
theorem rep_tup_inv {xs : List D} {v : V} (h : Rep K M H (.tup xs) v) : ∃ a vs, v = .ref a ∧ FT K M H a vs ∧ xs.length ≤ sizeLine ∧ Reps K M H xs vs := by unfold Rep at h; exact h
theorem rep_lst_inv {xs : List D} {v : V} (h : Rep K M H (.lst xs) v) : ∃ a vs, v = .ref a ∧ FL M H a vs ∧ xs.length ≤ sizeLine ∧ Reps K M H xs vs := by unfold Rep at h; exact h
theorem Reps.repeat {ds : List D} {vs : List V} (h : Reps K M H ds vs) : ∀ n : Nat, Reps K M H (List.replicate n ds).flatten (List.replicate n vs).flatten
  | 0 => by simp; exact Reps.nil
  | n + 1 => by rw [List.replicate_succ, List.replicate_succ, List.flatten_cons, List.flatten_cons]; exact h.append (Reps.repeat h n)
theorem od_add : OpD K (fun x y H Q => rI0 (fun i j => V.int (i + j)) x y H Q ∨ ((∃ i j, x = V.str i ∧ y = V.str j ∧ i.length + j.length ≤ sizeLine ∧ Q (.str (i ++ j)) H) ∨ (rCat x y H Q ∨ rCatA K x y H Q))) oAdd := by
  intro M H x y v u P Q w rx ry h q
  cases x <;> try exact h.elim
  all_goals (cases y <;> try exact h.elim)
  · unfold Rep at rx ry
    exact .inl ⟨_, _, rx, ry, q _ _ H Keep.refl rep_int h⟩
  · unfold Rep at rx ry
    exact .inr (.inl ⟨_, _, rx, ry, h.1, q _ _ H Keep.refl rep_str h.2⟩)
  · obtain ⟨a, vs, e1, f1, z1, r1⟩ := rep_tup_inv rx
    obtain ⟨b, ws, e2, f2, z2, r2⟩ := rep_tup_inv ry
    have l1 := r1.length
    have l2 := r2.length
    refine .inr (.inr (.inr ⟨a, b, vs, ws, e1, e2, f1.sq, f2.sq, by rw [← l1, ← l2]; exact h.1, fun e => ?_, fun e e' => ?_, fun e e' p hp => ?_⟩))
    · subst e
      have e0 := List.eq_nil_of_length_eq_zero (l1.trans rfl)
      subst e0
      exact q _ _ H Keep.refl (by rw [← e2]; exact ry) h.2
    · subst e'
      have e0 := List.eq_nil_of_length_eq_zero (l2.trans rfl)
      subst e0
      have h2 : P (.tup (_ ++ [])) := h.2
      rw [List.append_nil] at h2
      exact q _ _ H Keep.refl (by rw [← e1]; exact rx) h2
    · exact q _ _ _ (Keep.new hp) (rep_newT w (r1.append r2) (by rw [List.length_append]; exact h.1) hp) h.2
  · obtain ⟨a, vs, e1, f1, z1, r1⟩ := rep_lst_inv rx
    obtain ⟨b, ws, e2, f2, z2, r2⟩ := rep_lst_inv ry
    have l1 := r1.length
    have l2 := r2.length
    refine .inr (.inr (.inl ⟨a, b, vs, ws, e1, e2, f1.2, f2.2, by rw [← l1, ← l2]; exact h.1, fun p hp => ?_⟩))
    exact q _ _ _ (Keep.new hp) (rep_newL w (r1.append r2) (by rw [List.length_append]; exact h.1) hp) h.2
theorem od_mul : OpD K (fun x y H Q => rI CMulX (fun i j => V.int (i * j)) x y H Q ∨ rRep x y H Q) oMulA := by
  intro M H x y v u P Q w rx ry h q
  cases x <;> try exact h.elim
  all_goals (cases y <;> try exact h.elim)
  · unfold Rep at rx ry
    exact .inl ⟨_, _, rx, ry, h.1, q _ _ H Keep.refl rep_int h.2⟩
  · obtain ⟨a, vs, e1, f1, z1, r1⟩ := rep_lst_inv rx
    unfold Rep at ry
    obtain ⟨h1, h2, h3, h4⟩ := h
    have l1 := r1.length
    refine .inr ⟨a, _, vs, e1, ry, f1.2, h1, h2, by rw [← l1]; exact h3, fun p hp => ?_⟩
    exact q _ _ _ (Keep.new hp) (rep_newL w (r1.repeat _) (by rw [List.length_flatten, List.map_replicate, List.sum_replicate_nat, Nat.mul_comm]; exact h3) hp) h4
end
section
variable {X : Cx} {W : XK} {e a b : Expr} {pos : Pos} {va vb : TD}
theorem pd_add (ha : PD X W a va) (hb : PD X W b vb) : PD X W (.BinOp a .Add b pos) (dOp oAdd va vb) := pd_op (op_add.or (op_add_str.or (op_cat.or op_catA))) od_add mono_oAdd ha hb
theorem pd_mul (ha : PD X W a va) (hb : PD X W b vb) : PD X W (.BinOp a .Mult b pos) (dOp oMulA va vb) := pd_op (op_mulX.or op_rep) od_mul mono_oMulA ha hb
end

/-! ### == and != -/
mutual
def D.py : D → PyData
  | .non => .none
  | .bl b => .bool b
  | .int i => .int i
  | .str x => .str x
  | .tup xs => .tuple (pys xs)
  | .lst xs => .list (pys xs)
  | _ => .none
def pys : List D → List PyData
  | [] => []
  | x :: xs => D.py x :: pys xs
end
mutual
/-- data that == tells by its parts -/
def D.flat : D → Bool
  | .non => true
  | .bl _ => true
  | .int _ => true
  | .str _ => true
  | .tup xs => flats xs
  | .lst xs => flats xs
  | _ => false
def flats : List D → Bool
  | [] => true
  | x :: xs => D.flat x && flats xs
end
section
variable {K : PySem.W.Frag} {M : Mk} {H : Hp}
mutual
theorem Rep.dp : ∀ {d : D} {v : V}, Rep K M H d v → d.flat = true → Dp K H v d.py
  | .non, _, h, _ => by unfold Rep at h; subst h; unfold D.py; exact .non
  | .bl b, _, h, _ => by unfold Rep at h; subst h; unfold D.py; exact .bl b
  | .int i, _, h, _ => by unfold Rep at h; subst h; unfold D.py; exact .int i
  | .str x, _, h, _ => by unfold Rep at h; subst h; unfold D.py; exact .str x
  | .tup xs, _, h, f => by
    obtain ⟨a, vs, e, ft, _, r⟩ := rep_tup_inv h
    subst e
    unfold D.flat at f
    unfold D.py
    exact .tup ft.sq (Reps.dps r f)
  | .lst xs, _, h, f => by
    obtain ⟨a, vs, e, ft, _, r⟩ := rep_lst_inv h
    subst e
    unfold D.flat at f
    unfold D.py
    exact .lst ft.sq (Reps.dps r f)
  | .scr _, _, _, f => by unfold D.flat at f; cases f
  | .bag, _, _, f => by unfold D.flat at f; cases f
  | .ty _, _, _, f => by unfold D.flat at f; cases f
  | .cls _, _, _, f => by unfold D.flat at f; cases f
theorem Reps.dps : ∀ {ds : List D} {vs : List V}, Reps K M H ds vs → flats ds = true → DpAll K H vs (pys ds)
  | [], _, h, _ => by rw [h.nil_inv]; unfold pys; exact .nil
  | d :: ds, _, h, f => by
    obtain ⟨w, ws, e, r, rs⟩ := h.cons_inv
    subst e
    unfold flats at f
    rw [Bool.and_eq_true] at f
    unfold pys
    exact .cons (Rep.dp r f.1) (Reps.dps rs f.2)
end
/-- x == y -/
def oEq : D → D → (D → Prop) → Prop := fun x y P => match x, y with
  | .int i, .int j => P (.bl (decide (i = j)))
  | .str i, .str j => P (.bl (decide (i = j)))
  | .bl i, .bl j => P (.bl (decide (i = j)))
  | x, y => x.flat = true ∧ y.flat = true ∧ SeqAt.shaped x.py = true ∧ SeqAt.shaped y.py = true ∧ P (.bl (PyData.eqv x.py y.py))
def oNe : D → D → (D → Prop) → Prop := fun x y P => match x, y with
  | .int i, .int j => P (.bl (!decide (i = j)))
  | .str i, .str j => P (.bl (!decide (i = j)))
  | .bl i, .bl j => P (.bl (!decide (i = j)))
  | x, y => x.flat = true ∧ y.flat = true ∧ SeqAt.shaped x.py = true ∧ SeqAt.shaped y.py = true ∧ P (.bl (!PyData.eqv x.py y.py))
theorem mono_oEq : Mono2 oEq := fun x y P P' i h => by
  cases x <;> cases y <;> first | exact i _ h | exact ⟨h.1, h.2.1, h.2.2.1, h.2.2.2.1, i _ h.2.2.2.2⟩
theorem mono_oNe : Mono2 oNe := fun x y P P' i h => by
  cases x <;> cases y <;> first | exact i _ h | exact ⟨h.1, h.2.1, h.2.2.1, h.2.2.2.1, i _ h.2.2.2.2⟩
theorem od_eq : OpD K (fun x y H Q => rEq x y H Q ∨ rEqD K x y H Q) oEq := by
  intro M H x y v u P Q w rx ry h q
  cases x <;> cases y <;> first
    | (unfold Rep at rx ry
       subst rx ry
       refine .inl ⟨rfl, q _ _ H Keep.refl rep_bl ?_⟩
       simpa [oEq, oNe] using h)
    | exact .inr ⟨_, _, rx.dp h.1, ry.dp h.2.1, h.2.2.1, h.2.2.2.1, q _ _ H Keep.refl rep_bl h.2.2.2.2⟩
theorem od_ne : OpD K (fun x y H Q => rNe x y H Q ∨ rNeD K x y H Q) oNe := by
  intro M H x y v u P Q w rx ry h q
  cases x <;> cases y <;> first
    | (unfold Rep at rx ry
       subst rx ry
       refine .inl ⟨rfl, q _ _ H Keep.refl rep_bl ?_⟩
       simpa [oEq, oNe] using h)
    | exact .inr ⟨_, _, rx.dp h.1, ry.dp h.2.1, h.2.2.1, h.2.2.2.1, q _ _ H Keep.refl rep_bl h.2.2.2.2⟩
end
section
variable {X : Cx} {W : XK} {e a b : Expr} {pos : Pos} {va vb : TD}
theorem pd_eq (hu : X.A.units + 64 < cLine) (ha : PD X W a va) (hb : PD X W b vb) : PD X W (.Compare a [.Eq] [b] pos) (dOp oEq va vb) := pd_cmp (op_eq.or (op_eqD hu)) od_eq mono_oEq ha hb (nomark _)
theorem pdt_eq (hu : X.A.units + 64 < cLine) (ha : PD X W a va) (hb : PD X W b vb) : PDT X W (.Compare a [.Eq] [b] pos) (dTest (dOp oEq va vb)) := pdt_cmp (op_eq.or (op_eqD hu)) od_eq mono_oEq ha hb (nomark _)
theorem pd_ne (hu : X.A.units + 64 < cLine) (ha : PD X W a va) (hb : PD X W b vb) : PD X W (.Compare a [.NotEq] [b] pos) (dOp oNe va vb) := pd_cmp (op_ne.or (op_neD hu)) od_ne mono_oNe ha hb (nomark _)
theorem pdt_ne (hu : X.A.units + 64 < cLine) (ha : PD X W a va) (hb : PD X W b vb) : PDT X W (.Compare a [.NotEq] [b] pos) (dTest (dOp oNe va vb)) := pdt_cmp (op_ne.or (op_neD hu)) od_ne mono_oNe ha hb (nomark _)
/-- x is None -/
def D.isNon : D → Bool
  | .non => true
  | _ => false
theorem rep_isNon {K : PySem.W.Frag} {M : Mk} {H : Hp} {d : D} {v : V} (r : Rep K M H d v) : decide (v = V.non) = d.isNon := by
  cases d <;> unfold Rep at r
  case non => subst r; rfl
  case bl => subst r; rfl
  case int => subst r; rfl
  case str => subst r; rfl
  case tup => obtain ⟨a, vs, e, _⟩ := r; subst e; rfl
  case lst => obtain ⟨a, vs, e, _⟩ := r; subst e; rfl
  case scr => obtain ⟨a, e, _⟩ := r; subst e; rfl
  case bag => obtain ⟨a, e, _⟩ := r; subst e; rfl
  case ty => subst r; rfl
  case cls => subst r; rfl
def oIs : D → D → (D → Prop) → Prop := fun x y P => match y with
  | .non => P (.bl x.isNon)
  | _ => False
def oIsNot : D → D → (D → Prop) → Prop := fun x y P => match y with
  | .non => P (.bl (!x.isNon))
  | _ => False
theorem mono_oIs : Mono2 oIs := fun x y P P' i h => by cases y <;> first | exact i _ h | exact h.elim
theorem mono_oIsNot : Mono2 oIsNot := fun x y P P' i h => by cases y <;> first | exact i _ h | exact h.elim
theorem od_is {K : PySem.W.Frag} : OpD K (fun x y H Q => y = .non ∧ Q (.bl (decide (x = .non))) H) oIs := by
  intro M H x y v u P Q w rx ry h q
  cases y <;> try exact h.elim
  unfold Rep at ry
  exact ⟨ry, by rw [rep_isNon rx]; exact q _ _ H Keep.refl rep_bl h⟩
theorem od_isNot {K : PySem.W.Frag} : OpD K (fun x y H Q => y = .non ∧ Q (.bl (!decide (x = .non))) H) oIsNot := by
  intro M H x y v u P Q w rx ry h q
  cases y <;> try exact h.elim
  unfold Rep at ry
  exact ⟨ry, by rw [rep_isNon rx]; exact q _ _ H Keep.refl rep_bl h⟩
theorem pd_is (ha : PD X W a va) (hb : PD X W b vb) : PD X W (.Compare a [.Is] [b] pos) (dOp oIs va vb) := pd_cmp op_isN od_is mono_oIs ha hb (nomark _)
theorem pdt_is (ha : PD X W a va) (hb : PD X W b vb) : PDT X W (.Compare a [.Is] [b] pos) (dTest (dOp oIs va vb)) := pdt_cmp op_isN od_is mono_oIs ha hb (nomark _)
theorem pd_isNot (ha : PD X W a va) (hb : PD X W b vb) : PD X W (.Compare a [.IsNot] [b] pos) (dOp oIsNot va vb) := pd_cmp op_notN od_isNot mono_oIsNot ha hb (nomark _)
theorem pdt_isNot (ha : PD X W a va) (hb : PD X W b vb) : PDT X W (.Compare a [.IsNot] [b] pos) (dTest (dOp oIsNot va vb)) := pdt_cmp op_notN od_isNot mono_oIsNot ha hb (nomark _)
end
end PL

set_option Elab.async false
set_option linter.all false
set_option maxRecDepth 100000
set_option maxHeartbeats 4000000
namespace PL
open PySem PySem.Spec PyProof.Rows L2

/-! ### calls of the built-ins -/
def CallD (K : PySem.W.Frag) (r : List V → Hp → VK → Prop) (rd : List D → (D → Prop) → Prop) : Prop := ∀ (M : Mk) (H : Hp) (ds : List D) (vs : List V) (P : D → Prop) (Q : VK), Wf M H → Reps K M H ds vs → rd ds P →
  (∀ d w H', Keep M H H' → Rep K M H' d w → P d → Q w H') → r vs H Q
def dCB (rd : List D → (D → Prop) → Prop) (ta : TDA) : TD := fun G x Q => ta G x fun ds => rd ds Q
section
variable {X : Cx} {W : XK} {e : Expr} {es : List Expr} {x : Str} {p pos : Pos} {ta : TDA} {id T : String} {r : List V → Hp → VK → Prop} {rd : List D → (D → Prop) → Prop}
theorem mono_CB (m : Mono1 rd) (ma : MonoD ta) : MonoD (dCB rd ta) := fun G x Q Q' i h => ma G x _ _ (fun ds h => m ds _ _ i h) h
theorem lift_CB {K : PySem.W.Frag} (hd : CallD K r rd) (ma : MonoD ta) {σ : L2.St} {H : Hp} {Q : VK} (h : liftE K W (dCB rd ta) σ H Q) : tCB r (liftA K W ta) σ H Q := by
  obtain ⟨M, M0, H0, G, x, h, hx, ht⟩ := h
  refine liftA_mk h hx ma ht fun ds vs H1 h1 k1 r1 p1 => ?_
  exact hd M H1 ds vs _ Q h1.wf r1 p1 fun d w H2 k2 r2 q => q w H2 (k1.trans k2) r2
theorem pd_callB (hc : CallR X (.builtin id) r) (hd : CallD X.K r rd) (m : Mono1 rd) (hg : Gl X x) (hm : X.mg x = none) (hv : bootBuiltins x = some (.builtin id)) (ha : PDA X W (e :: es) ta) (hn : x ≠ "__name__" := by decide) (hdb : (x == ("__debug__" : Str)) = false := by decide)
    (he : starEach (e :: es) X.env = (false, eval e X.env) :: starEach es X.env := by rfl) (hpl : (backTo pos (starEach es X.env)).any (·.1) = false := by rfl) : PD X W (.Call (.Name x p) (e :: es) [] pos) (dCB rd ta) :=
  ⟨PE.weaken (pe_callB hc hg hm hv ha.run hn hdb he hpl) fun _ _ _ h => lift_CB hd ha.mono h, mono_CB m ha.mono⟩
theorem pd_callTy (hc : CallR X (.type T) r) (hd : CallD X.K r rd) (m : Mono1 rd) (hg : Gl X x) (hm : X.mg x = none) (hv : bootBuiltins x = some (.type T)) (ha : PDA X W (e :: es) ta) (hn : x ≠ "__name__" := by decide) (hdb : (x == ("__debug__" : Str)) = false := by decide)
    (he : starEach (e :: es) X.env = (false, eval e X.env) :: starEach es X.env := by rfl) (hpl : (backTo pos (starEach es X.env)).any (·.1) = false := by rfl) : PD X W (.Call (.Name x p) (e :: es) [] pos) (dCB rd ta) :=
  ⟨PE.weaken (pe_callTy hc hg hm hv ha.run hn hdb he hpl) fun _ _ _ h => lift_CB hd ha.mono h, mono_CB m ha.mono⟩
end
theorem reps1 {K : PySem.W.Frag} {M : Mk} {H : Hp} {d : D} {vs : List V} (h : Reps K M H [d] vs) : ∃ v, vs = [v] ∧ Rep K M H d v := by
  obtain ⟨v, ws, e, r, rs⟩ := h.cons_inv
  rw [rs.nil_inv] at e
  exact ⟨v, e, r⟩
theorem reps2 {K : PySem.W.Frag} {M : Mk} {H : Hp} {d e : D} {vs : List V} (h : Reps K M H [d, e] vs) : ∃ v w, vs = [v, w] ∧ Rep K M H d v ∧ Rep K M H e w := by
  obtain ⟨v, ws, e, r, rs⟩ := h.cons_inv
  obtain ⟨w, rfl, r2⟩ := reps1 rs
  exact ⟨v, w, e, r, r2⟩
section
variable {K : PySem.W.Frag} {X : Cx}
/-- len -/
def bLen : List D → (D → Prop) → Prop := fun ds P => match ds with
  | [.tup xs] => P (.int xs.length)
  | [.lst xs] => P (.int xs.length)
  | [.str z] => z.length ≤ sizeLine ∧ P (.int z.length)
  | [.scr ns] => P (.int ns.length)
  | _ => False
theorem m_len : Mono1 bLen := fun ds P P' i h => by
  unfold bLen at h ⊢
  split at h <;> first | exact i _ h | exact ⟨h.1, i _ h.2⟩ | exact h.elim
theorem cd_len : CallD K (fun xs H Q => ∃ x n, xs = [x] ∧ LenV K x H n ∧ Q (.int n) H) bLen := by
  intro M H ds vs P Q w r h q
  unfold bLen at h
  split at h
  · obtain ⟨v, rfl, r1⟩ := reps1 r
    obtain ⟨a, vs, rfl, f, z, rs⟩ := rep_tup_inv r1
    exact ⟨_, vs.length, rfl, .inr ⟨vs, f.sq, rfl⟩, q _ _ H Keep.refl rep_int (by rw [← rs.length]; exact h)⟩
  · obtain ⟨v, rfl, r1⟩ := reps1 r
    obtain ⟨a, vs, rfl, f, z, rs⟩ := rep_lst_inv r1
    exact ⟨_, vs.length, rfl, .inl ⟨vs, f.sq, rfl⟩, q _ _ H Keep.refl rep_int (by rw [← rs.length]; exact h)⟩
  · obtain ⟨v, rfl, r1⟩ := reps1 r
    unfold Rep at r1
    subst r1
    exact ⟨_, _, rfl, ⟨h.1, rfl⟩, q _ _ H Keep.refl rep_int h.2⟩
  · obtain ⟨v, rfl, r1⟩ := reps1 r
    unfold Rep at r1
    obtain ⟨a, rfl, m, f⟩ := r1
    exact ⟨_, _, rfl, .inl ⟨_, .inl f, rfl⟩, q _ _ H Keep.refl rep_int (by rw [List.length_map]; exact h)⟩
  · exact h.elim
/-- abs -/
def bAbs : List D → (D → Prop) → Prop := fun ds P => match ds with
  | [.int i] => P (.int (i.natAbs : Int))
  | _ => False
theorem m_abs : Mono1 bAbs := fun ds P P' i h => by
  unfold bAbs at h ⊢
  split at h <;> first | exact i _ h | exact h.elim
theorem cd_abs : CallD K (fun xs H Q => ∃ i, xs = [.int i] ∧ Q (.int (if i < 0 then -i else i)) H) bAbs := by
  intro M H ds vs P Q w r h q
  unfold bAbs at h
  split at h
  · obtain ⟨v, rfl, r1⟩ := reps1 r
    unfold Rep at r1
    subst r1
    rename_i i
    refine ⟨i, rfl, q _ _ H Keep.refl rep_int ?_⟩
    have e : (if i < 0 then -i else i) = (i.natAbs : Int) := by split <;> omega
    rw [e]; exact h
  · exact h.elim
/-- int of a number, of a truth value -/
def bInt : List D → (D → Prop) → Prop := fun ds P => match ds with
  | [.int i] => P (.int i)
  | [.bl b] => P (.int (if b then 1 else 0))
  | _ => False
theorem m_int : Mono1 bInt := fun ds P P' i h => by
  unfold bInt at h ⊢
  split at h <;> first | exact i _ h | exact h.elim
theorem cd_int : CallD K (fun xs H Q => (∃ i, xs = [.int i] ∧ Q (.int i) H) ∨ ∃ k, xs = [.bl k] ∧ Q (.int (if k then 1 else 0)) H) bInt := by
  intro M H ds vs P Q w r h q
  unfold bInt at h
  split at h
  · obtain ⟨v, rfl, r1⟩ := reps1 r
    unfold Rep at r1
    subst r1
    exact .inl ⟨_, rfl, q _ _ H Keep.refl rep_int h⟩
  · obtain ⟨v, rfl, r1⟩ := reps1 r
    unfold Rep at r1
    subst r1
    exact .inr ⟨_, rfl, q _ _ H Keep.refl rep_int h⟩
  · exact h.elim
/-- isinstance -/
def tyName : D → Option String
  | .non => some "NoneType"
  | .bl _ => some "bool"
  | .int _ => some "int"
  | .str _ => some "str"
  | .tup _ => some "tuple"
  | .lst _ => some "list"
  | _ => none
def isOne (x c : D) : Option Bool := match c with
  | .ty n => (tyName x).bind fun t => kitB t n
  | _ => none
def isAny (x : D) : List D → Option Bool
  | [] => some false
  | c :: cs => match isOne x c, isAny x cs with
    | some a, some b => some (a || b)
    | _, _ => none
def bIsi : List D → (D → Prop) → Prop := fun ds P => match ds with
  | [x, .tup cs] => ∃ b, (tyName x).isSome = true ∧ isAny x cs = some b ∧ P (.bl b)
  | [x, c] => ∃ b, isOne x c = some b ∧ P (.bl b)
  | _ => False
theorem m_isi : Mono1 bIsi := fun ds P P' i h => by
  unfold bIsi at h ⊢
  split at h
  · obtain ⟨b, h1, h2, h3⟩ := h; exact ⟨b, h1, h2, i _ h3⟩
  · obtain ⟨b, h1, h2⟩ := h; exact ⟨b, h1, i _ h2⟩
  · exact h.elim
theorem rep_ty {M : Mk} {H : Hp} {x : D} {v : V} {t : String} (r : Rep K M H x v) (e : tyName x = some t) : TyX K H v (.type t) := by
  cases x <;> simp only [tyName, Option.some.injEq, reduceCtorEq] at e <;> subst e
  · unfold Rep at r; subst r; exact .base .non
  · unfold Rep at r; subst r; exact .base (.bl _)
  · unfold Rep at r; subst r; exact .base (.int _)
  · unfold Rep at r; subst r; exact .base (.str _)
  · obtain ⟨a, vs, rfl, f, _, _⟩ := rep_tup_inv r
    rcases f with ⟨_, f⟩ | ⟨⟨o, f, c⟩, _⟩
    · exact .base (.tup f)
    · exact .kTuple f c
  · obtain ⟨a, vs, rfl, f, _, _⟩ := rep_lst_inv r
    exact .base (.lst f.2)
theorem isOne_kit {M : Mk} {H : Hp} {x c : D} {u : V} {b : Bool} {t : String} (hx : tyName x = some t) (rc : Rep K M H c u) (e : isOne x c = some b) : ∃ w, ClsV u w ∧ PySem.W.kitOne K (.type t) w = some b := by
  cases c <;> simp only [isOne, reduceCtorEq] at e
  rename_i n
  unfold Rep at rc
  subst rc
  rw [hx] at e
  exact ⟨_, .ty n, kit_ty e⟩
theorem isOne_name {x c : D} {b : Bool} (e : isOne x c = some b) : ∃ t, tyName x = some t := by
  cases c <;> simp only [isOne, reduceCtorEq] at e
  cases h : tyName x with
  | none => rw [h] at e; cases e
  | some t => exact ⟨t, rfl⟩
theorem isAny_kit {M : Mk} {H : Hp} {x : D} {t : String} (hx : tyName x = some t) : ∀ {cs : List D} {us : List V} {b : Bool}, Reps K M H cs us → isAny x cs = some b →
    ∃ ws, Paired ClsV us ws ∧ PySem.W.kitAny K (.type t) ws = some b
  | [], _, b, r, e => by
    rw [r.nil_inv]
    simp only [isAny, Option.some.injEq] at e
    exact ⟨[], .nil, by rw [kitAny_nil, e]⟩
  | c :: cs, _, b, r, e => by
    obtain ⟨u, us, rfl, rc, rs⟩ := r.cons_inv
    unfold isAny at e
    split at e
    · rename_i a b' e1 e2
      simp only [Option.some.injEq] at e
      subst e
      obtain ⟨w, k, e3⟩ := isOne_kit hx rc e1
      obtain ⟨ws, k2, e4⟩ := isAny_kit hx rs e2
      refine ⟨w :: ws, .cons k k2, kitAny_cons e3 (fun z => ?_) (fun z => ?_)⟩
      · subst z; rw [Bool.false_or]; exact e4
      · subst z; rfl
    · cases e
/-- the rule of the library, for one class and for a tuple of them -/
theorem cd_isi : CallD K (fun xs H Q => rIsi K xs H Q ∨ (rIsiT K xs H Q ∨ rIsiK K xs H Q)) bIsi := by
  intro M H ds vs P Q w r h q
  unfold bIsi at h
  split at h
  · rename_i x cs
    obtain ⟨b, hs, e, p⟩ := h
    obtain ⟨v, u, rfl, r1, r2⟩ := reps2 r
    obtain ⟨t, hx⟩ := Option.isSome_iff_exists.mp hs
    obtain ⟨a, us, rfl, f, z, rs⟩ := rep_tup_inv r2
    obtain ⟨ws, k, e2⟩ := isAny_kit hx rs e
    refine .inr ?_
    rcases f with ⟨_, f⟩ | ⟨_, f⟩
    · exact .inl ⟨v, a, us, _, ws, b, rfl, f, k, rep_ty r1 hx, e2, q _ _ H Keep.refl rep_bl p⟩
    · rcases f (fun _ => none) with f | ⟨o, its, n, l, c1, c2, _, rv⟩
      · rcases f with f | ⟨o, f⟩ <;> cases f
      · obtain ⟨oc, od, dt, sl⟩ := o
        simp only at c1 c2
        subst c1 c2
        have e3 := ClsV.all k rv
        subst e3
        exact .inr ⟨v, a, od, its.toList, n, sl, _, b, rfl, by rw [l], rep_ty r1 hx, e2, q _ _ H Keep.refl rep_bl p⟩
  · rename_i x c _
    obtain ⟨b, e, p⟩ := h
    obtain ⟨v, u, rfl, r1, r2⟩ := reps2 r
    obtain ⟨t, hx⟩ := isOne_name e
    obtain ⟨w', k, e2⟩ := isOne_kit hx r2 e
    exact .inl ⟨v, u, _, w', b, rfl, k, rep_ty r1 hx, e2, q _ _ H Keep.refl rep_bl p⟩
  · exact h.elim
/-- tuple(..) of a list, a tuple -/
def bTuple : List D → (D → Prop) → Prop := fun ds P => match ds with
  | [.lst xs] => P (.tup xs)
  | [.tup xs] => P (.tup xs)
  | _ => False
theorem m_tuple : Mono1 bTuple := fun ds P P' i h => by
  unfold bTuple at h ⊢
  split at h <;> first | exact i _ h | exact h.elim
theorem cd_tuple : CallD K (fun xs H Q => ∃ p ys, xs = [.ref p] ∧ ((SqL K H p ys ∧ ∀ l, H l = none → Q (.ref l) (upd H l (.tup ys))) ∨ (SqT K H p ys ∧ Q (.ref p) H))) bTuple := by
  intro M H ds vs P Q w r h q
  unfold bTuple at h
  split at h
  · obtain ⟨v, rfl, r1⟩ := reps1 r
    obtain ⟨a, us, rfl, f, z, rs⟩ := rep_lst_inv r1
    exact ⟨a, us, rfl, .inl ⟨f.sq, fun l hl => q _ _ _ (Keep.new hl) (rep_newT w rs z hl) h⟩⟩
  · obtain ⟨v, rfl, r1⟩ := reps1 r
    have r1' := r1
    obtain ⟨a, us, rfl, f, z, rs⟩ := rep_tup_inv r1
    exact ⟨a, us, rfl, .inr ⟨f.sq, q _ _ H Keep.refl r1' h⟩⟩
  · exact h.elim
/-- all, any of a list of truth values -/
def bAll : List D → (D → Prop) → Prop := fun ds P => ∃ bs : List Bool, ds = [.lst (bs.map D.bl)] ∧ P (.bl (bs.all id))
def bAny : List D → (D → Prop) → Prop := fun ds P => ∃ bs : List Bool, ds = [.lst (bs.map D.bl)] ∧ P (.bl (bs.any id))
theorem m_all : Mono1 bAll := fun ds P P' i h => let ⟨bs, e, p⟩ := h; ⟨bs, e, i _ p⟩
theorem m_any : Mono1 bAny := fun ds P P' i h => let ⟨bs, e, p⟩ := h; ⟨bs, e, i _ p⟩
theorem cd_all : CallD K (rAll K) bAll := by
  intro M H ds vs P Q w r h q
  obtain ⟨bs, rfl, p⟩ := h
  obtain ⟨v, rfl, r1⟩ := reps1 r
  obtain ⟨a, us, rfl, f, z, rs⟩ := rep_lst_inv r1
  have e := rs.bls
  subst e
  exact ⟨a, bs, rfl, f.sq, q _ _ H Keep.refl rep_bl p⟩
theorem cd_any : CallD K (rAny K) bAny := by
  intro M H ds vs P Q w r h q
  obtain ⟨bs, rfl, p⟩ := h
  obtain ⟨v, rfl, r1⟩ := reps1 r
  obtain ⟨a, us, rfl, f, z, rs⟩ := rep_lst_inv r1
  have e := rs.bls
  subst e
  exact ⟨a, bs, rfl, f.sq, q _ _ H Keep.refl rep_bl p⟩
/-- sum of a list of whole numbers -/
def bSum : List D → (D → Prop) → Prop := fun ds P => ∃ ns : List Int, ds = [.lst (ns.map D.int)] ∧ P (.int ns.sum)
theorem m_sum : Mono1 bSum := fun ds P P' i h => let ⟨bs, e, p⟩ := h; ⟨bs, e, i _ p⟩
/-- max, min of two whole numbers -/
def bMax2 : List D → (D → Prop) → Prop := fun ds P => match ds with
  | [.int i, .int j] => P (.int (if j > i then j else i))
  | _ => False
theorem m_max2 : Mono1 bMax2 := fun ds P P' i h => by
  unfold bMax2 at h ⊢
  split at h <;> first | exact i _ h | exact h.elim
theorem cd_max2 : CallD K (fun xs H Q => ∃ i j, xs = [.int i, .int j] ∧ Q (.int (if j > i then j else i)) H) bMax2 := by
  intro M H ds vs P Q w r h q
  unfold bMax2 at h
  split at h
  · obtain ⟨v, u, rfl, r1, r2⟩ := reps2 r
    unfold Rep at r1 r2
    subst r1 r2
    exact ⟨_, _, rfl, q _ _ H Keep.refl rep_int h⟩
  · exact h.elim
/-- str of a whole number -/
def bStr : List D → (D → Prop) → Prop := fun ds P => match ds with
  | [.int i] => i.natAbs.log2 < 1920 ∧ P (.str (toString i))
  | _ => False
theorem m_str : Mono1 bStr := fun ds P P' i h => by
  unfold bStr at h ⊢
  split at h <;> first | exact ⟨h.1, i _ h.2⟩ | exact h.elim
theorem cd_str : CallD K (fun xs H Q => ∃ i, xs = [.int i] ∧ i.natAbs.log2 < 1920 ∧ Q (.str (toString i)) H) bStr := by
  intro M H ds vs P Q w r h q
  unfold bStr at h
  split at h
  · obtain ⟨v, rfl, r1⟩ := reps1 r
    unfold Rep at r1
    subst r1
    exact ⟨_, rfl, h.1, q _ _ H Keep.refl rep_str h.2⟩
  · exact h.elim
end

/-! ### items, slices -/
def oIx : D → D → (D → Prop) → Prop := fun x y P => match x, y with
  | .tup xs, .int i => ∃ d, atI xs i = some d ∧ P d
  | .lst xs, .int i => ∃ d, atI xs i = some d ∧ P d
  | .str z, .int i => z.length ≤ sizeLine ∧ ∃ c, atI z.cps.toList i = some c ∧ P (.str ⟨#[c]⟩)
  | _, _ => False
theorem mono_oIx : Mono2 oIx := fun x y P P' i h => by
  unfold oIx at h ⊢
  split at h <;> first | exact (let ⟨d, e, p⟩ := h; ⟨d, e, i _ p⟩) | exact (let ⟨z, d, e, p⟩ := h; ⟨z, d, e, i _ p⟩) | exact h.elim
section
variable {K : PySem.W.Frag} {M : Mk} {H : Hp}
theorem Reps.at {ds : List D} {vs : List V} {i : Int} {d : D} (r : Reps K M H ds vs) (h : atI ds i = some d) : ∃ v, atI vs i = some v ∧ Rep K M H d v := by
  unfold atI at h ⊢
  rw [← r.length]
  cases e : ixN ds.length i with
  | none => rw [e] at h; cases h
  | some j =>
    rw [e] at h
    exact r.getD h
theorem od_ix : OpD K (rIx K) oIx := by
  intro M H x y v u P Q w rx ry h q
  unfold oIx at h
  split at h
  · obtain ⟨d, e, p⟩ := h
    obtain ⟨a, us, rfl, f, z, rs⟩ := rep_tup_inv rx
    unfold Rep at ry
    subst ry
    obtain ⟨v, e2, r⟩ := rs.at e
    exact .inr (.inl ⟨a, us, _, v, rfl, rfl, f.sq, e2, q _ _ H Keep.refl r p⟩)
  · obtain ⟨d, e, p⟩ := h
    obtain ⟨a, us, rfl, f, z, rs⟩ := rep_lst_inv rx
    unfold Rep at ry
    subst ry
    obtain ⟨v, e2, r⟩ := rs.at e
    exact .inl ⟨a, us, _, v, rfl, rfl, f.sq, e2, q _ _ H Keep.refl r p⟩
  · obtain ⟨z, c, e, p⟩ := h
    unfold Rep at rx ry
    subst rx ry
    exact .inr (.inr ⟨_, _, c, rfl, rfl, z, e, q _ _ H Keep.refl rep_str p⟩)
  · exact h.elim
end
section
variable {X : Cx} {W : XK} {e a b : Expr} {pos p2 : Pos} {va vb : TD}
theorem pd_ix (ha : PD X W a va) (hb : PD X W b vb) (hs : PlainIx b) : PD X W (.Subscript a b pos) (dOp oIx va vb) :=
  ⟨PE.weaken (pe_ix ix_seq ha.run hb.run hs) fun _ _ _ h => lift_op od_ix ha.mono hb.mono h, mono_op mono_oIx ha.mono hb.mono⟩
abbrev TDO := Gm → XP → (Option Int → Prop) → Prop
def liftO (K : PySem.W.Frag) (W : XK) (t : TDO) : TO := fun σ H Q => ∃ (M M0 : Mk) (H0 : Hp) (G : Gm) (x : XP), S8 K M M0 H0 G σ H ∧ XOk K M0 H0 W x ∧ t G x (fun o => ∀ H', Keep M H H' → Q o H')
structure PDO (X : Cx) (W : XK) (e : Option Expr) (t : TDO) : Prop where
  run : PO X e (liftO X.K W t)
  mono : MonoD t
def oNo : TDO := fun _ _ Q => Q none
def oSome (t : TD) : TDO := fun G x Q => t G x fun d => match d with
  | .int i => Q (some i)
  | _ => False
theorem PO.weaken {X : Cx} {e : Option Expr} {t t' : TO} (h : PO X e t) (w : ∀ σ H Q, t' σ H Q → t σ H Q) : PO X e t' := ⟨fun pins s σ H Q I q => h.run pins s σ H Q I (w _ _ _ q)⟩
theorem pdo_none : PDO X W none oNo := ⟨PO.weaken po_none fun σ H Q ⟨M, M0, H0, G, x, h, hx, ht⟩ => ht H Keep.refl, fun _ _ _ _ i h => i _ h⟩
theorem pdo_some {t : TD} (h : PD X W e t) : PDO X W (some e) (oSome t) := by
  refine ⟨PO.weaken (po_some h.run) fun σ H Q q => ?_, fun G x Q Q' i q => h.mono G x _ _ (fun d q => by cases d <;> first | exact i _ q | exact q.elim) q⟩
  obtain ⟨M, M0, H0, G, x, hs, hx, ht⟩ := q
  refine liftE_mk hs hx h.mono ht fun d v H1 h1 k1 r1 p1 => ?_
  cases d with
  | int i => unfold Rep at r1; exact ⟨i, r1, p1 H1 k1⟩
  | _ => exact p1.elim
/-- a cut of a list of anything -/
def cutL {α : Type} (xs : List α) (lo hi : Option Int) : List α := (xs.drop (HT.sIx xs.length 0 lo)).take (HT.sIx xs.length xs.length hi - HT.sIx xs.length 0 lo)
def oSl : D → Option Int → Option Int → (D → Prop) → Prop := fun x lo hi P => match x with
  | .tup xs => P (.tup (cutL xs lo hi))
  | .lst xs => P (.lst (cutL xs lo hi))
  | _ => False
def dSl (t : TD) (l u : TDO) : TD := fun G x Q => t G x fun d => l G x fun lo => u G x fun hi => oSl d lo hi Q
theorem cut_len {α : Type} (xs : List α) (lo hi : Option Int) : (cutL xs lo hi).length ≤ xs.length := by
  unfold cutL
  rw [List.length_take, List.length_drop]
  omega
theorem cut_all {α : Type} {xs : List α} {lo hi : Option Int} (h : HT.sIx xs.length 0 lo = 0 ∧ HT.sIx xs.length xs.length hi = xs.length) : cutL xs lo hi = xs := by
  unfold cutL
  rw [h.1, h.2]
  simp
theorem Reps.cut {K : PySem.W.Frag} {M : Mk} {H : Hp} {ds : List D} {vs : List V} (r : Reps K M H ds vs) (lo hi : Option Int) : Reps K M H (cutL ds lo hi) (cutV vs lo hi) := by
  unfold cutL cutV
  rw [r.length]
  exact (r.drop _).take _
theorem pd_slice {lo hi : Option Expr} {tl th : TDO} (he : PD X W e va) (hl : PDO X W lo tl) (hu : PDO X W hi th) : PD X W (.Subscript e (.Slice lo hi none p2) pos) (dSl va tl th) := by
  refine ⟨PE.weaken (pe_slice (sl_list.or sl_tupA) he.run hl.run hu.run) fun σ H Q h => ?_, fun G x Q Q' i h => he.mono G x _ _ (fun d h => hl.mono G x _ _ (fun l h => hu.mono G x _ _ (fun u h => ?_) h) h) h⟩
  · obtain ⟨M, M0, H0, G, x, h, hx, ht⟩ := h
    refine liftE_mk h hx he.mono ht fun d v H1 h1 k1 r1 p1 => ?_
    refine ⟨M, M0, H0, G, x, h1, hx, hl.mono G x _ _ (fun l q H2 k2 => ?_) p1⟩
    have h2 := h1.keep k2
    refine ⟨M, M0, H0, G, x, h2, hx, hu.mono G x _ _ (fun u q H3 k3 => ?_) q⟩
    have h3 := h2.keep k3
    have k := (k1.trans k2).trans k3
    have r3 := (r1.keep k2).keep k3
    unfold oSl at q
    split at q
    · obtain ⟨a, us, rfl, f, z, rs⟩ := rep_tup_inv r3
      refine .inr ⟨a, us, rfl, f.sq, fun e => ?_, fun e p hp => ?_⟩
      · have q2 := q (.ref a) H3 k
        rw [cut_all (by rw [rs.length]; exact e)] at q2
        exact q2 r3
      · exact q _ _ (k.trans (Keep.new hp)) (rep_newT h3.wf (rs.cut l u) (Nat.le_trans (cut_len _ _ _) z) hp)
    · obtain ⟨a, us, rfl, f, z, rs⟩ := rep_lst_inv r3
      exact .inl ⟨a, us, rfl, f.sq, fun p hp => q _ _ (k.trans (Keep.new hp)) (rep_newL h3.wf (rs.cut l u) (Nat.le_trans (cut_len _ _ _) z) hp)⟩
    · exact q.elim
  · unfold oSl at h ⊢
    split at h <;> first | exact i _ h | exact h.elim
end
end PL

set_option Elab.async false
set_option linter.all false
set_option maxRecDepth 100000
set_option maxHeartbeats 4000000
namespace PL
open PySem PySem.Spec PyProof.Rows L2 RZ

/-! ### targets: a name, or a tuple of targets -/
inductive Pat where
  | nm (i : Nat) | tup (ps : List Pat)
mutual
/-- which slots get which data -/
def Pat.bind : Pat → D → Option (List (Nat × D))
  | .nm i, d => some [(i, d)]
  | .tup ps, .tup ds => bindAll ps ds
  | .tup _, _ => none
def bindAll : List Pat → List D → Option (List (Nat × D))
  | [], [] => some []
  | p :: ps, d :: ds => match Pat.bind p d, bindAll ps ds with
    | some a, some b => some (a ++ b)
    | _, _ => none
  | _, _ => none
end
def setAllD (G : Gm) : List (Nat × D) → Gm
  | [] => G
  | q :: r => setAllD (G.set q.1 (.v q.2)) r
def setAllV (σ : L2.St) : List Nat → List V → L2.St
  | i :: is, v :: vs => setAllV (σ.set i (some v)) is vs
  | _, _ => σ
theorem setAllV_append : ∀ {is : List Nat} {vs : List V} {js : List Nat} {ws : List V} {σ : L2.St}, is.length = vs.length → setAllV σ (is ++ js) (vs ++ ws) = setAllV (setAllV σ is vs) js ws
  | [], [], _, _, _, _ => rfl
  | i :: is, v :: vs, js, ws, σ, h => by
    show setAllV (σ.set i (some v)) (is ++ js) (vs ++ ws) = _
    rw [setAllV_append (by simpa using h)]
    rfl
  | [], v :: vs, _, _, _, h => by simp at h
  | i :: is, [], _, _, _, h => by simp at h
section
variable {K : PySem.W.Frag} {M M0 : Mk} {H0 H : Hp} {G : Gm} {σ : L2.St}
theorem S8.setAll : ∀ {asg : List (Nat × D)} {vs : List V} {G : Gm} {σ : L2.St}, S8 K M M0 H0 G σ H → Reps K M H (asg.map (·.2)) vs → S8 K M M0 H0 (setAllD G asg) (setAllV σ (asg.map (·.1)) vs) H
  | [], _, _, _, h, r => by rw [r.nil_inv]; exact h
  | q :: r, _, G, σ, h, rr => by
    obtain ⟨v, vs, rfl, r1, rs⟩ := rr.cons_inv
    show S8 K M M0 H0 (setAllD (G.set q.1 (.v q.2)) r) (setAllV (σ.set q.1 (some v)) (r.map (·.1)) vs) H
    exact S8.setAll (h.setv r1) rs
end
def liftP (K : PySem.W.Frag) (p : Pat) : TG := fun v σ H Q => ∃ (M : Mk) (d : D) (asg : List (Nat × D)), Wf M H ∧ Rep K M H d v ∧ p.bind d = some asg ∧ ∀ vs, Reps K M H (asg.map (·.2)) vs → Q (setAllV σ (asg.map (·.1)) vs) H
def liftPs (K : PySem.W.Frag) (ps : List Pat) : TGs := fun us σ H Q => ∃ (M : Mk) (ds : List D) (asg : List (Nat × D)), Wf M H ∧ Reps K M H ds us ∧ bindAll ps ds = some asg ∧ ∀ vs, Reps K M H (asg.map (·.2)) vs → Q (setAllV σ (asg.map (·.1)) vs) H
theorem PG.weaken {X : Cx} {e : Expr} {t t' : TG} (h : PG X e t) (w : ∀ v σ H Q, t' v σ H Q → t v σ H Q) : PG X e t' := ⟨fun pins s σ H v u Q I r q => h.run pins s σ H v u Q I r (w _ _ _ _ q)⟩
theorem PGs.weaken {X : Cx} {e : List Expr} {t t' : TGs} (h : PGs X e t) (w : ∀ v σ H Q, t' v σ H Q → t v σ H Q) : PGs X e t' := ⟨fun pins s σ H v u Q I r q => h.run pins s σ H v u Q I r (w _ _ _ _ q)⟩
theorem pgd_name {X : Cx} {i : Nat} {e : Expr} (h : PG X e (gName i)) : PG X e (liftP X.K (.nm i)) := PG.weaken h fun v σ H Q ⟨M, d, asg, w, r, e, q⟩ => by
  unfold Pat.bind at e
  cases e
  exact q [v] (Reps.cons r Reps.nil)
theorem pgds_nil {X : Cx} : PGs X [] (liftPs X.K []) := PGs.weaken pgs_nil fun us σ H Q ⟨M, ds, asg, w, r, e, q⟩ => by
  cases ds with
  | nil =>
    unfold bindAll at e
    cases e
    have e2 := r.nil_inv
    subst e2
    exact ⟨rfl, q [] Reps.nil⟩
  | cons d ds => unfold bindAll at e; cases e
theorem Reps.len2 {K : PySem.W.Frag} {M : Mk} {H : Hp} {asg : List (Nat × D)} {vs : List V} (r : Reps K M H (asg.map (·.2)) vs) : (asg.map (·.1)).length = vs.length := by
  rw [List.length_map, ← r.length, List.length_map]
theorem pgds_cons {X : Cx} {e : Expr} {es : List Expr} {p : Pat} {ps : List Pat} (h1 : PG X e (liftP X.K p)) (h2 : PGs X es (liftPs X.K ps))
    (hs : (assignEach (e :: es) X.env).map (·.2) = assign e X.env :: (assignEach es X.env).map (·.2) := by rfl) : PGs X (e :: es) (liftPs X.K (p :: ps)) := by
  refine PGs.weaken (pgs_cons h1 h2 hs) fun us σ H Q ⟨M, ds, asg, w, r, e, q⟩ => ?_
  cases ds with
  | nil => unfold bindAll at e; cases e
  | cons d ds =>
    obtain ⟨v, vs, rfl, r1, rs⟩ := r.cons_inv
    unfold bindAll at e
    split at e
    · rename_i a b e1 e2
      cases e
      refine ⟨v, vs, rfl, M, d, a, w, r1, e1, fun ws rw1 => ⟨M, ds, b, w, rs, e2, fun zs rz => ?_⟩⟩
      have z := q (ws ++ zs) (by rw [List.map_append]; exact rw1.append rz)
      rw [List.map_append, setAllV_append rw1.len2] at z
      exact z
    · cases e
theorem pgd_tup {X : Cx} {es : List Expr} {k : Nat} {pos : Pos} {ps : List Pat} {n : Nat} (hc : X.calm = true) (h : PGs X es (liftPs X.K ps)) (hp : ps.length = n)
    (hn : (assignEach es X.env).length = n := by rfl) (hst : (assignEach es X.env).findIdx? (·.1) = none := by rfl) : PG X (.Tuple es k pos) (liftP X.K (.tup ps)) := by
  refine PG.weaken (pg_tup hc h hn hst) fun v σ H Q ⟨M, d, asg, w, r, e, q⟩ => ?_
  cases d <;> unfold Pat.bind at e <;> try cases e
  obtain ⟨a, vs, rfl, f, z, rs⟩ := rep_tup_inv r
  refine ⟨a, vs, rfl, f.sq, ?_, M, _, asg, w, rs, e, q⟩
  have bl : ∀ {ps : List Pat} {ds : List D} {asg : List (Nat × D)}, bindAll ps ds = some asg → ps.length = ds.length := by
    intro ps
    induction ps with
    | nil =>
      intro ds asg e
      cases ds with
      | nil => rfl
      | cons d ds => unfold bindAll at e; cases e
    | cons p ps ih =>
      intro ds asg e
      cases ds with
      | nil => unfold bindAll at e; cases e
      | cons d ds =>
        unfold bindAll at e
        split at e
        · rename_i e2
          simp only [List.length_cons, ih e2]
        · cases e
  rw [← rs.length, ← bl e, hp]

/-! ### what is walked -/
def Grow (H H' : Hp) : Prop := ∀ a o, H a = some o → H' a = some o
/-- the iterator J yields ds, as long as what stood at M, H stands -/
def Yields (K : PySem.W.Frag) (M : Mk) (J : It) (ds : List D) (H1 : Hp) : Prop := ∃ (Gd : Hp → Prop) (Y : Nat → Hp → V → Hp → Prop), L2.Walk J ds.length Gd Y ∧ (∀ Mc Hc, Ext M H1 Mc Hc → Gd Hc) ∧
  ∀ i Hc x H' Mc, i < ds.length → Wf Mc Hc → Ext M H1 Mc Hc → Y i Hc x H' → Grow Hc H' ∧ ∃ d, ds[i]? = some d ∧ Rep K Mc H' d x
abbrev TDI := Gm → XP → (List D → Prop) → Prop
def liftI (K : PySem.W.Frag) (W : XK) (t : TDI) : TI := fun σ H R => ∃ (M M0 : Mk) (H0 : Hp) (G : Gm) (x : XP), S8 K M M0 H0 G σ H ∧ XOk K M0 H0 W x ∧ t G x (fun ds => ∀ J H', Keep M H H' → Yields K M J ds H' → R J H')
structure PDI (X : Cx) (W : XK) (tg e : Expr) (t : TDI) : Prop where
  run : PI X tg e (liftI X.K W t)
  mono : MonoD t
theorem PI.weaken {X : Cx} {tg e : Expr} {t t' : TI} (h : PI X tg e t) (w : ∀ σ H Q, t' σ H Q → t σ H Q) : PI X tg e t' := ⟨fun pins s σ H Q I q => h.run pins s σ H Q I (w _ _ _ q)⟩
theorem Grow.refl {H : Hp} : Grow H H := fun _ _ e => e
theorem Grow.new {H : Hp} {p : Addr} {o : HO} (hp : H p = none) : Grow H (upd H p o) := fun a u e => by rw [upd_ne (fun z => by subst z; rw [hp] at e; cases e)]; exact e
theorem Grow.keep {M : Mk} {H H' : Hp} (g : Grow H H') : Keep M H H' := ⟨fun a o _ e => g a o e, fun a c _ h => by
  obtain ⟨i, r, m, k, ns, h1, h2, h3, h4⟩ := h
  exact ⟨i, r, m, k, ns, g _ _ h1, h2, g _ _ h3, h4⟩⟩
section
variable {K : PySem.W.Frag} {M : Mk} {H : Hp}
theorem yields_list {a : Addr} {ds : List D} {vs : List V} (f : FL M H a vs) (rs : Reps K M H ds vs) : Yields K M (Itl K a) ds H := by
  refine ⟨fun Hc => SqL K Hc a vs, YAt vs, ?_, fun Mc Hc e => (f.ext e).sq, fun i Hc x H' Mc hi w e y => ?_⟩
  · rw [rs.length]; exact walk_list
  · obtain ⟨rfl, hx⟩ := y
    obtain ⟨d, hd, r⟩ := (rs.ext e).get hx
    exact ⟨Grow.refl, d, hd, r⟩
theorem yields_tup {a : Addr} {ds : List D} {vs : List V} (f : FT K M H a vs) (rs : Reps K M H ds vs) : Yields K M (Itt K a) ds H := by
  refine ⟨fun Hc => SqT K Hc a vs, YAt vs, ?_, fun Mc Hc e => (f.ext e).sq, fun i Hc x H' Mc hi w e y => ?_⟩
  · rw [rs.length]; exact walk_tup
  · obtain ⟨rfl, hx⟩ := y
    obtain ⟨d, hd, r⟩ := (rs.ext e).get hx
    exact ⟨Grow.refl, d, hd, r⟩
/-- the signs of a text, each a text of one -/
def signs (z : Str) : List D := z.cps.toList.map fun c => .str ⟨#[c]⟩
theorem yields_str {z : Str} : Yields K M (Its z) (signs z) H := by
  refine ⟨fun _ => True, _, by rw [show (signs z).length = z.cps.size by unfold signs; rw [List.length_map, Array.length_toList]]; exact walk_str, fun _ _ _ => trivial, fun i Hc x H' Mc hi w e y => ?_⟩
  obtain ⟨rfl, c, hc, rfl⟩ := y
  refine ⟨Grow.refl, .str ⟨#[c]⟩, ?_, rep_str⟩
  unfold signs
  rw [List.getElem?_map, Array.getElem?_toList, hc]
  rfl
/-- lo, lo + 1, .. -/
def ranged (lo : Int) (n : Nat) : List D := (List.range n).map fun i => .int (lo + (i : Nat))
theorem yields_range {lo : Int} {n : Nat} : Yields K M (Itr lo n) (ranged lo n) H := by
  refine ⟨fun _ => True, _, by rw [show (ranged lo n).length = n by unfold ranged; rw [List.length_map, List.length_range]]; exact walk_range, fun _ _ _ => trivial, fun i Hc x H' Mc hi w e y => ?_⟩
  obtain ⟨rfl, rfl⟩ := y
  have hi' : i < n := by unfold ranged at hi; rw [List.length_map, List.length_range] at hi; exact hi
  refine ⟨Grow.refl, .int (lo + (i : Nat)), ?_, rep_int⟩
  unfold ranged
  rw [List.getElem?_map, List.getElem?_range hi']
  rfl
theorem zip_get {α β : Type} {f : α → β → D} : ∀ {xs : List α} {ys : List β} {i : Nat} {x : α} {y : β}, xs[i]? = some x → ys[i]? = some y → (List.zipWith f xs ys)[i]? = some (f x y)
  | [], _, i, _, _, h, _ => by simp at h
  | _ :: _, [], i, _, _, _, h => by simp at h
  | a :: xs, b :: ys, 0, _, _, h, g => by simp at h g; subst h g; simp
  | a :: xs, b :: ys, i + 1, _, _, h, g => by
    have q := zip_get (f := f) (xs := xs) (ys := ys) (i := i) (by simpa using h) (by simpa using g)
    simpa using q
/-- pairs -/
def paired (xs ys : List D) : List D := List.zipWith (fun x y => .tup [x, y]) xs ys
theorem paired_len {xs ys : List D} : (paired xs ys).length = min xs.length ys.length := by unfold paired; rw [List.length_zipWith]
theorem rep_pair {Mc : Mk} {Hc : Hp} {T : Addr} {x y : V} {d e : D} (w : Wf Mc Hc) (hT : Hc T = none) (rx : Rep K Mc Hc d x) (ry : Rep K Mc Hc e y) : Rep K Mc (upd Hc T (.tup [x, y])) (.tup [d, e]) (.ref T) :=
  rep_newT w (Reps.cons rx (Reps.cons ry Reps.nil)) (by show 2 ≤ sizeLine; rw [sizeLine_eq]; decide) hT
end

section
variable {X : Cx} {W : XK} {tg e : Expr} {va : TD}
/-- a list, a tuple, a text -/
def iAny (K : PySem.W.Frag) (tl : TE) : TI := fun σ H R => tl σ H fun x H1 => (∃ a, x = .ref a ∧ (∃ xs, SqL K H1 a xs) ∧ R (Itl K a) H1) ∨ (∃ a, x = .ref a ∧ (∃ xs, SqT K H1 a xs) ∧ R (Itt K a) H1) ∨ ∃ z, x = .str z ∧ R (Its z) H1
theorem pi_any {tl : TE} (hl : PE X e tl) : PI X tg e (iAny X.K tl) := by
  refine ⟨fun pins s σ H R I h => ?_⟩
  refine thn (hl.run pins s σ H _ I h) fun v s1 ⟨x, H1, I1, r1, q1⟩ => ?_
  rcases q1 with ⟨a, e, ⟨xs, hq⟩, q⟩ | ⟨a, e, ⟨xs, hq⟩, q⟩ | ⟨z, e, q⟩
  · subst e
    cases r1
    obtain ⟨its, rv, p, hz⟩ := I1.list hq
    refine wpAny_pyIter_list p.isList ?_
    refine ⟨s1.heap.objs.size, [s1.heap.objs.size], _, _, H1, rfl, I1.kept (t' := s1.toks) fun b o e => Heap.get?_push_of_some _ e, turn_list a _, ⟨_, Heap.get?_push_size _ rfl, rfl, rfl⟩, fun b hb => ?_, q⟩
    have e : b = s1.heap.objs.size := by simpa using hb
    subst e
    exact I1.fpOk (Nat.le_refl _) (I1.hok.fresh (Nat.le_refl _))
  · subst e
    cases r1
    obtain ⟨its, rv, p, hz⟩ := I1.tuple hq
    refine wpAny_pyIter_tuple (show s1.heap.IsTuple a its.toArray from p) ?_
    refine ⟨s1.heap.objs.size, [s1.heap.objs.size], _, _, H1, rfl, I1.kept (t' := s1.toks) fun b o e => Heap.get?_push_of_some _ e, turn_tuple a _, ⟨_, Heap.get?_push_size _ rfl, rfl, rfl⟩, fun b hb => ?_, q⟩
    have e : b = s1.heap.objs.size := by simpa using hb
    subst e
    exact I1.fpOk (Nat.le_refl _) (I1.hok.fresh (Nat.le_refl _))
  · subst e
    obtain ⟨t, rfl⟩ := r1
    cases ha : z.cps.all (· < 128)
    · exact wpAny_pyIter_wide ha (pi_one (tk := s1.toks) I1 _ (turn_str _ z t "str_iterator" (.inr rfl)) ⟨_, Heap.get?_push_size _ rfl, rfl, rfl⟩ q)
    · exact wpAny_pyIter_ascii ha (pi_one (tk := s1.toks) I1 _ (turn_str _ z t "str_ascii_iterator" (.inl rfl)) ⟨_, Heap.get?_push_size _ rfl, rfl, rfl⟩ q)
def iItems (t : TD) : TDI := fun G x Q => t G x fun d => match d with
  | .lst xs => Q xs
  | .tup xs => Q xs
  | .str z => Q (signs z)
  | _ => False
/-- what is walked has at most this many items -/
theorem pdi_any (hl : PD X W e va) : PDI X W tg e (iItems va) := by
  refine ⟨PI.weaken (pi_any hl.run) fun σ H R q => ?_, fun G x Q Q' i q => hl.mono G x _ _ (fun d q => by cases d <;> first | exact i _ q | exact q.elim) q⟩
  obtain ⟨M, M0, H0, G, x, hs, hx, ht⟩ := q
  refine liftE_mk hs hx hl.mono ht fun d v H1 h1 k1 r1 p1 => ?_
  cases d with
  | lst xs =>
    obtain ⟨a, vs, rfl, f, z, rs⟩ := rep_lst_inv r1
    exact .inl ⟨a, rfl, ⟨vs, f.sq⟩, p1 _ H1 k1 (yields_list f rs)⟩
  | tup xs =>
    obtain ⟨a, vs, rfl, f, z, rs⟩ := rep_tup_inv r1
    exact .inr (.inl ⟨a, rfl, ⟨vs, f.sq⟩, p1 _ H1 k1 (yields_tup f rs)⟩)
  | str z => unfold Rep at r1; exact .inr (.inr ⟨z, r1, p1 _ H1 k1 yields_str⟩)
  | _ => exact p1.elim
variable {ta : TDA} {p pos tpos : Pos} {elts : List Expr} {kk : Nat}
def iRange1 (ta : TDA) : TDI := fun G x Q => ta G x fun ds => match ds with
  | [.int j] => (-(2 ^ 62) ≤ j ∧ j < 2 ^ 62) ∧ Q (ranged 0 j.toNat)
  | _ => False
theorem pdi_range1 (hg : Gl X "range") (hm : X.mg "range" = none) (ha : PDA X W [e] ta) (hs : starEach [e] X.env = [(false, eval e X.env)] := by rfl) : PDI X W tg (.Call (.Name "range" p) [e] [] pos) (iRange1 ta) := by
  refine ⟨PI.weaken (pi_range1 hg hm ha.run hs) fun σ H R q => ?_, fun G x Q Q' i q => ha.mono G x _ _ (fun ds q => ?_) q⟩
  · obtain ⟨M, M0, H0, G, x, hs, hx, ht⟩ := q
    refine liftA_mk hs hx ha.mono ht fun ds vs H1 h1 k1 r1 p1 => ?_
    split at p1
    · obtain ⟨v, rfl, r2⟩ := reps1 r1
      unfold Rep at r2
      subst r2
      exact ⟨_, rfl, p1.1.1, p1.1.2, p1.2 _ H1 k1 yields_range⟩
    · exact p1.elim
  · split at q
    · exact ⟨q.1, i _ q.2⟩
    · exact q.elim
def iRange2 (ta : TDA) : TDI := fun G x Q => ta G x fun ds => match ds with
  | [.int i, .int j] => (-(2 ^ 62) ≤ i ∧ i < 2 ^ 62 ∧ -(2 ^ 62) ≤ j ∧ j < 2 ^ 62) ∧ Q (ranged i (j - i).toNat)
  | _ => False
theorem pdi_range2 {e2 : Expr} (hg : Gl X "range") (hm : X.mg "range" = none) (ha : PDA X W [e, e2] ta) (hs : starEach [e, e2] X.env = [(false, eval e X.env), (false, eval e2 X.env)] := by rfl) (hs2 : starEach [e2] X.env = [(false, eval e2 X.env)] := by rfl) :
    PDI X W tg (.Call (.Name "range" p) [e, e2] [] pos) (iRange2 ta) := by
  refine ⟨PI.weaken (pi_range2 hg hm ha.run hs hs2) fun σ H R q => ?_, fun G x Q Q' i q => ha.mono G x _ _ (fun ds q => ?_) q⟩
  · obtain ⟨M, M0, H0, G, x, hs, hx, ht⟩ := q
    refine liftA_mk hs hx ha.mono ht fun ds vs H1 h1 k1 r1 p1 => ?_
    split at p1
    · obtain ⟨v, u, rfl, r2, r3⟩ := reps2 r1
      unfold Rep at r2 r3
      subst r2 r3
      exact ⟨_, _, rfl, p1.1, p1.2 _ H1 k1 yields_range⟩
    · exact p1.elim
  · split at q
    · exact ⟨q.1, i _ q.2⟩
    · exact q.elim
def iZip2 (ta : TDA) : TDI := fun G x Q => ta G x fun ds => match ds with
  | [.lst xs, .lst ys] => Q (paired xs ys)
  | [.tup xs, .tup ys] => Q (paired xs ys)
  | _ => False
theorem walk_zipT {K : PySem.W.Frag} {a b : Addr} {xs ys : List V} {n : Nat} (hn : n = min xs.length ys.length) : L2.Walk (ItzT K a b) n (fun H => SqT K H a xs ∧ SqT K H b ys) (YPair (fun i => xs[i]?) (fun i => ys[i]?)) := by
  subst hn
  refine ⟨fun i _ hi q => ?_, fun _ q => ⟨xs, ys, q.1, q.2, by omega⟩, fun i H v H' _ q y => ?_⟩
  · have h1 : i < xs.length := by omega
    have h2 : i < ys.length := by omega
    exact ⟨xs, ys, xs[i], ys[i], q.1, q.2, by simp [h1], by simp [h2]⟩
  · obtain ⟨T, x, z, h1, h2, h3, h4, h5⟩ := y
    exact ⟨T, x, z, h1, h2, h3, h4 xs q.1, h5 ys q.2⟩
theorem yields_pair {K : PySem.W.Frag} {M : Mk} {H : Hp} {J : It} {Gd : Hp → Prop} {xs ys : List D} {vs ws : List V} (w : L2.Walk J (min xs.length ys.length) Gd (YPair (fun i => vs[i]?) (fun i => ws[i]?)))
    (hg : ∀ Mc Hc, Ext M H Mc Hc → Gd Hc) (rx : Reps K M H xs vs) (ry : Reps K M H ys ws) : Yields K M J (paired xs ys) H := by
  refine ⟨Gd, _, by rw [paired_len]; exact w, hg, fun i Hc x H' Mc hi wf e y => ?_⟩
  obtain ⟨T, v, u, rfl, hT, rfl, h1, h2⟩ := y
  obtain ⟨d, hd, r1⟩ := (rx.ext e).get h1
  obtain ⟨d2, hd2, r2⟩ := (ry.ext e).get h2
  exact ⟨Grow.new hT, .tup [d, d2], zip_get hd hd2, rep_pair wf hT r1 r2⟩
theorem pdi_zip {e2 : Expr} (hg : Gl X "zip") (hm : X.mg "zip" = none) (ha : PDA X W [e, e2] ta) (hs : starEach [e, e2] X.env = (false, eval e X.env) :: starEach [e2] X.env := by rfl) (hpl : (backTo pos (starEach [e2] X.env)).any (·.1) = false := by rfl) :
    PDI X W (.Tuple elts kk tpos) (.Call (.Name "zip" p) [e, e2] [] pos) (iZip2 ta) := by
  refine ⟨PI.weaken (pi_zipA hg hm ha.run hs hpl) fun σ H R q => ?_, fun G x Q Q' i q => ha.mono G x _ _ (fun ds q => ?_) q⟩
  · obtain ⟨M, M0, H0, G, x, hs, hx, ht⟩ := q
    refine liftA_mk hs hx ha.mono ht fun ds vs H1 h1 k1 r1 p1 => ?_
    split at p1
    · obtain ⟨v, u, rfl, r2, r3⟩ := reps2 r1
      obtain ⟨a, us, rfl, f, z, rs⟩ := rep_lst_inv r2
      obtain ⟨b, ws, rfl, g, z2, rs2⟩ := rep_lst_inv r3
      exact ⟨a, b, us, ws, rfl, .inl ⟨f.sq, g.sq, p1 _ H1 k1 (yields_pair (walk_zip (by rw [rs.length, rs2.length])) (fun Mc Hc e => ⟨(f.ext e).sq, (g.ext e).sq⟩) rs rs2)⟩⟩
    · obtain ⟨v, u, rfl, r2, r3⟩ := reps2 r1
      obtain ⟨a, us, rfl, f, z, rs⟩ := rep_tup_inv r2
      obtain ⟨b, ws, rfl, g, z2, rs2⟩ := rep_tup_inv r3
      exact ⟨a, b, us, ws, rfl, .inr ⟨f.sq, g.sq, p1 _ H1 k1 (yields_pair (walk_zipT (by rw [rs.length, rs2.length])) (fun Mc Hc e => ⟨(f.ext e).sq, (g.ext e).sq⟩) rs rs2)⟩⟩
    · exact p1.elim
  · split at q <;> first | exact i _ q | exact q.elim
/-- (0, x), (1, y), .. -/
def numbered (xs : List D) : List D := paired (ranged 0 xs.length) xs
def iEnum2 (ta : TDA) : TDI := fun G x Q => ta G x fun ds => match ds with
  | [.lst xs] => Q (numbered xs)
  | _ => False
theorem pdi_enum (hg : Gl X "enumerate") (hm : X.mg "enumerate" = none) (ha : PDA X W [e] ta) (hs : starEach [e] X.env = [(false, eval e X.env)] := by rfl) :
    PDI X W (.Tuple elts kk tpos) (.Call (.Name "enumerate" p) [e] [] pos) (iEnum2 ta) := by
  refine ⟨PI.weaken (pi_enum hg hm ha.run hs) fun σ H R q => ?_, fun G x Q Q' i q => ha.mono G x _ _ (fun ds q => ?_) q⟩
  · obtain ⟨M, M0, H0, G, x, hs, hx, ht⟩ := q
    refine liftA_mk hs hx ha.mono ht fun ds vs H1 h1 k1 r1 p1 => ?_
    split at p1
    · obtain ⟨v, rfl, r2⟩ := reps1 r1
      obtain ⟨a, us, rfl, f, z, rs⟩ := rep_lst_inv r2
      rename_i xs
      refine ⟨a, us, rfl, f.sq, p1 _ H1 k1 ⟨fun Hc => SqL X.K Hc a us, YPair (fun i => some (.int (i : Nat))) (fun i => us[i]?), ?_, fun Mc Hc e => (f.ext e).sq, fun i Hc x H' Mc hi wf e y => ?_⟩⟩
      · have l1 : (numbered xs).length = us.length := by
          unfold numbered ranged
          rw [paired_len, List.length_map, List.length_range, Nat.min_self, rs.length]
        rw [l1]
        exact walk_enum
      · obtain ⟨T, v, u, rfl, hT, rfl, h1, h2⟩ := y
        cases h1
        obtain ⟨d2, hd2, r2⟩ := (rs.ext e).get h2
        have hl : i < xs.length := by
          cases Nat.lt_or_ge i xs.length with
          | inl h => exact h
          | inr h => rw [List.getElem?_eq_none h] at hd2; cases hd2
        refine ⟨Grow.new hT, .tup [.int (i : Nat), d2], ?_, rep_pair wf hT rep_int r2⟩
        unfold numbered paired
        refine zip_get (x := D.int (i : Nat)) ?_ hd2
        unfold ranged
        rw [List.getElem?_map, List.getElem?_range hl]
        simp
    · exact p1.elim
  · split at q <;> first | exact i _ q | exact q.elim
end

/-! ### [e for target in it if test] -/
def wipeD (G : Gm) : List Nat → Gm
  | [] => G
  | v :: vs => (wipeD G vs).set v .un
def compD (p : Pat) (tt : TDT) (te : TD) (Gw : Gm) (x : XP) : List D → List D → (List D → Prop) → Prop
  | [], acc, Q => Q acc
  | d :: r, acc, Q => ∃ asg, p.bind d = some asg ∧ tt (setAllD Gw asg) x fun b => (b = true → te (setAllD Gw asg) x fun y => compD p tt te Gw x r (acc ++ [y]) Q) ∧ (b = false → compD p tt te Gw x r acc Q)
def fLc (ti : TDI) (p : Pat) (tt : TDT) (te : TD) (vs : List Nat) : TDF := fun G x Q => ti G x fun ds => ds.length ≤ sizeLine ∧ compD p tt te (wipeD G vs) x ds [] Q
mutual
def Pat.slots : Pat → List Nat
  | .nm i => [i]
  | .tup ps => slotsAll ps
def slotsAll : List Pat → List Nat
  | [] => []
  | p :: ps => Pat.slots p ++ slotsAll ps
end
mutual
theorem bind_slots : ∀ {p : Pat} {d : D} {asg : List (Nat × D)}, p.bind d = some asg → asg.map (·.1) = p.slots
  | .nm i, d, asg, h => by unfold Pat.bind at h; cases h; unfold Pat.slots; rfl
  | .tup ps, d, asg, h => by
    cases d <;> unfold Pat.bind at h <;> try cases h
    unfold Pat.slots
    exact bindAll_slots h
theorem bindAll_slots : ∀ {ps : List Pat} {ds : List D} {asg : List (Nat × D)}, bindAll ps ds = some asg → asg.map (·.1) = slotsAll ps
  | [], [], asg, h => by unfold bindAll at h; cases h; unfold slotsAll; rfl
  | [], _ :: _, asg, h => by unfold bindAll at h; cases h
  | _ :: _, [], asg, h => by unfold bindAll at h; cases h
  | p :: ps, d :: ds, asg, h => by
    unfold bindAll at h
    split at h
    · rename_i a b e1 e2
      cases h
      unfold slotsAll
      rw [List.map_append, bind_slots e1, bindAll_slots e2]
    · cases h
end
section
variable {K : PySem.W.Frag} {M M0 : Mk} {H0 H : Hp}
theorem S8.setun {G : Gm} {σ : L2.St} (h : S8 K M M0 H0 G σ H) (i : Nat) (s : Option V) : S8 K M M0 H0 (G.set i .un) (σ.set i s) H := by
  refine ⟨h.wf, h.wf0, h.mks, h.bg, h.kp, by simp [h.len], fun j s e => ?_, fun j l ds es e1 e2 e3 => ?_⟩
  · by_cases hj : i = j
    · subst hj
      rw [List.getElem?_set] at e
      simp at e
      obtain ⟨hl, e⟩ := e
      subst e
      exact trivial
    · rw [List.getElem?_set_ne hj] at e ⊢
      exact h.sl j s e
  · have f : ∀ {j : Nat} {ds : List D}, (G.set i .un)[j]? = some (.o ds) → i ≠ j ∧ G[j]? = some (.o ds) := fun {j ds} e => by
      by_cases hj : i = j
      · subst hj
        rw [List.getElem?_set] at e
        simp at e
      · rw [List.getElem?_set_ne hj] at e
        exact ⟨hj, e⟩
    obtain ⟨n1, g1⟩ := f e1
    obtain ⟨n2, g2⟩ := f e2
    rw [List.getElem?_set_ne n1, List.getElem?_set_ne n2] at e3
    exact h.dis j l ds es g1 g2 e3
theorem S8.wipe {G : Gm} {σ : L2.St} (h : S8 K M M0 H0 G σ H) : ∀ vs : List Nat, S8 K M M0 H0 (wipeD G vs) (L2.wipe σ vs) H
  | [] => h
  | v :: vs => (S8.wipe h vs).setun v none
theorem wipe_set {σ : L2.St} {i : Nat} {w : Option V} : ∀ {vs : List Nat}, i ∈ vs → L2.wipe (σ.set i w) vs = L2.wipe σ vs := by
  intro vs hi
  apply List.ext_getElem?
  intro j
  have out : ∀ {τ : L2.St} {vs : List Nat} {j : Nat}, j ∉ vs → (L2.wipe τ vs)[j]? = τ[j]? := fun {τ vs j} hj => by
    induction vs with
    | nil => rfl
    | cons v vs ih =>
      simp only [List.mem_cons, not_or] at hj
      unfold L2.wipe
      rw [List.getElem?_set_ne (Ne.symm hj.1)]
      exact ih hj.2
  have inn : ∀ {τ : L2.St} {vs : List Nat} {j : Nat}, j ∈ vs → j < τ.length → (L2.wipe τ vs)[j]? = some none := fun {τ vs j} hj hl => by
    induction vs with
    | nil => cases hj
    | cons v vs ih =>
      unfold L2.wipe
      by_cases e : v = j
      · subst e
        rw [List.getElem?_set_self (by rw [wipe_length]; exact hl)]
      · rw [List.getElem?_set_ne e]
        exact ih ((List.mem_cons.mp hj).resolve_left (Ne.symm e))
  by_cases hl : j < σ.length
  · by_cases hj : j ∈ vs
    · rw [inn hj (by simpa using hl), inn hj hl]
    · rw [out hj, out hj, List.getElem?_set_ne (fun e : i = j => hj (by rw [← e]; exact hi))]
  · rw [List.getElem?_eq_none (by rw [wipe_length, List.length_set]; omega), List.getElem?_eq_none (by rw [wipe_length]; omega)]
theorem wipe_setAll {vs : List Nat} : ∀ {is : List Nat} {ws : List V} {σ : L2.St}, (∀ i ∈ is, i ∈ vs) → L2.wipe (setAllV σ is ws) vs = L2.wipe σ vs
  | [], [], _, _ => rfl
  | [], _ :: _, _, _ => rfl
  | _ :: _, [], _, _ => rfl
  | i :: is, w :: ws, σ, h => by
    show L2.wipe (setAllV (σ.set i (some w)) is ws) vs = _
    rw [wipe_setAll (fun j hj => h j (List.mem_cons_of_mem _ hj)), wipe_set (h i List.mem_cons_self)]
theorem wipe_wipe {σ : L2.St} {vs : List Nat} : L2.wipe (L2.wipe σ vs) vs = L2.wipe σ vs := by
  have gen : ∀ {us : List Nat} {τ : L2.St}, (∀ i ∈ us, i ∈ vs) → L2.wipe (L2.wipe τ us) vs = L2.wipe τ vs := fun {us τ} h => by
    induction us with
    | nil => rfl
    | cons u us ih =>
      show L2.wipe ((L2.wipe τ us).set u none) vs = _
      rw [wipe_set (h u List.mem_cons_self)]
      exact ih fun i hi => h i (List.mem_cons_of_mem _ hi)
  exact gen fun i hi => hi
end
end PL

set_option Elab.async false
set_option linter.all false
set_option maxRecDepth 100000
set_option maxHeartbeats 4000000
namespace PL
open PySem PySem.Spec PyProof.Rows L2 RZ

section
variable {K : PySem.W.Frag} {M M0 : Mk} {H0 H : Hp} {G : Gm} {σ : L2.St}
/-- what stood when p was not there yet is not p -/
theorem ext_fresh {H' : Hp} {D : Addr} (w : Wf M H) (hD : H D = none) (k : Keep M H H') : Ext M H (own M D) H' := ⟨fun a u hm e => by
  have ne : a ≠ D := fun z => by subst z; rw [hD] at e; cases e
  exact ⟨by rw [own_ne ne]; exact hm, k.k a u (by rw [hm]; decide) e⟩, fun a hm => by
  by_cases ha : a = D
  · subst ha; exact absurd hD (w.t a (by rw [hm]; decide))
  · rw [own_ne ha]; exact hm⟩
/-- a new object laid at D that is this frame's own -/
theorem S8.mark {H' : Hp} (h : S8 K M M0 H0 G σ H) {D : Addr} (hD : H D = none) (k : Keep M H H') (hn : H' D ≠ none) : S8 K (own M D) M0 H0 G σ H' := by
  have hD0 : H0 D = none := by
    cases q : H0 D with
    | none => rfl
    | some u => exact absurd hD (h.kp.some h.wf0 (by rw [q]; simp))
  have ex := ext_fresh h.wf hD k
  refine ⟨⟨fun a hm => ?_, fun a hm => ?_⟩, h.wf0, fun a ha => ?_, fun a hm => h.bg a (own_two hm).2, h.keep0 k, h.len, fun i s e => ?_, h.dis⟩
  · by_cases e : a = D
    · subst e; exact hn
    · rw [own_ne e] at hm; exact k.some h.wf (h.wf.t a hm)
  · obtain ⟨ne, hm⟩ := own_two hm
    obtain ⟨c, hb⟩ := h.wf.b a hm
    exact ⟨c, (k.b a c hm hb).mk (by rw [own_ne (Ne.symm (hb.ne hD).2)]; exact hb.zero)⟩
  · rw [own_ne (fun z => by subst z; exact ha hD0)]
    exact h.mks a ha
  · have q := h.sl i s e
    cases s with
    | un => exact trivial
    | v d => obtain ⟨v, e1, r⟩ := q; exact ⟨v, e1, r.ext ex⟩
    | o ds =>
      obtain ⟨p, vs, e1, m1, f0, e2, l, r⟩ := q
      have ne : p ≠ D := fun z => by subst z; rw [hD] at e2; cases e2
      exact ⟨p, vs, e1, by rw [own_ne ne]; exact m1, f0, k.k p _ (by rw [m1]; decide) e2, l, r.ext ex⟩
theorem ext_wr {D : Addr} {o : HO} (hm : M D = 1) : Ext M H M (upd H D o) := ⟨fun a u h0 e => ⟨h0, by rw [upd_ne (fun z => by subst z; rw [hm] at h0; cases h0)]; exact e⟩, fun _ h => h⟩
theorem bag_wr {D a c : Addr} {o : HO} (h : BagC M H a c) (ha : M a = 2) (hm : M D = 1) : BagC M (upd H D o) a c :=
  h.upd (fun e => by subst e; rw [ha] at hm; cases hm) (fun e => by subst e; rw [h.zero] at hm; cases hm)
/-- an own object is written that no name holds -/
theorem S8.wr (h : S8 K M M0 H0 G σ H) {D : Addr} {o : HO} (hm : M D = 1) (h0 : H0 D = none) (hs : ∀ (j : Nat) (es : List PL.D), G[j]? = some (.o es) → σ[j]? ≠ some (some (.ref D))) : S8 K M M0 H0 G σ (upd H D o) := by
  refine ⟨⟨fun a ha => ?_, fun a ha => let ⟨c, hb⟩ := h.wf.b a ha; ⟨c, bag_wr hb ha hm⟩⟩, h.wf0, h.mks, h.bg, ?_, h.len, fun i s e => ?_, h.dis⟩
  · by_cases e : a = D
    · subst e; rw [upd_same]; simp
    · rw [upd_ne e]; exact h.wf.t a ha
  · refine ⟨fun a u ha e => ?_, fun a c ha b => ?_⟩
    · rw [upd_ne (fun z => by subst z; rw [h0] at e; cases e)]; exact h.kp.k a u ha e
    · exact (h.kp.b a c ha b).upd (b.ne h0).1 (b.ne h0).2
  · have q := h.sl i s e
    cases s with
    | un => exact trivial
    | v d => obtain ⟨v, e1, r⟩ := q; exact ⟨v, e1, r.ext (ext_wr hm)⟩
    | o ds =>
      obtain ⟨p, vs, e1, m1, f0, e2, l, r⟩ := q
      have ne : p ≠ D := fun z => by subst z; exact hs i ds e e1
      exact ⟨p, vs, e1, m1, f0, by rw [upd_ne ne]; exact e2, l, r.ext (ext_wr hm)⟩
end

/-! ### the comprehension -/
structure PDTs (X : Cx) (W : XK) (ifs : List Expr) (t : TDT) : Prop where
  run : PTs X ifs (liftT X.K W t)
  mono : MonoD t
def tAll : TDT := fun _ _ Q => Q true
theorem PTs.weaken {X : Cx} {e : List Expr} {t t' : TT} (h : PTs X e t) (w : ∀ σ H Q, t' σ H Q → t σ H Q) : PTs X e t' := ⟨fun pins s σ H Q I q => h.run pins s σ H Q I (w _ _ _ q)⟩
theorem pdts_nil {X : Cx} {W : XK} : PDTs X W [] tAll := ⟨PTs.weaken pts_nil fun σ H Q ⟨M, M0, H0, G, x, h, hx, ht⟩ => ht H Keep.refl, fun _ _ _ _ i h => i _ h⟩
theorem pdts_one {X : Cx} {W : XK} {c : Expr} {t : TDT} (h : PDT X W c t) : PDTs X W [c] t := ⟨pts_one h.run, h.mono⟩
theorem mono_comp {p : Pat} {tt : TDT} {te : TD} (mt : MonoD tt) (me : MonoD te) {Gw : Gm} {x : XP} : ∀ (ds acc : List D) (Q Q' : List D → Prop), (∀ l, Q l → Q' l) → compD p tt te Gw x ds acc Q → compD p tt te Gw x ds acc Q'
  | [], acc, Q, Q', i, h => i _ h
  | d :: r, acc, Q, Q', i, h => by
    unfold compD at h ⊢
    obtain ⟨asg, e, h⟩ := h
    exact ⟨asg, e, mt _ x _ _ (fun b h => ⟨fun q => me _ x _ _ (fun y h => mono_comp mt me r _ Q Q' i h) (h.1 q), fun q => mono_comp mt me r _ Q Q' i (h.2 q)⟩) h⟩
theorem drop_at {α : Type} {l : List α} {i : Nat} {d : α} (h : l[i]? = some d) : l.drop i = d :: l.drop (i + 1) := by
  obtain ⟨hl, e⟩ := List.getElem?_eq_some_iff.mp h
  rw [List.drop_eq_getElem_cons hl, e]
theorem lift_lc {K : PySem.W.Frag} {W : XK} {ti : TDI} {p : Pat} {tt : TDT} {te : TD} {vs : List Nat} (mi : MonoD ti) (mt : MonoD tt) (me : MonoD te) (hp : ∀ i ∈ p.slots, i ∈ vs) {σ : L2.St} {H : Hp} {Q : VK}
    (h : liftF K W (fLc ti p tt te vs) σ H Q) : tLc (liftI K W ti) (liftP K p) (liftT K W tt) (liftE K W te) vs σ H Q := by
  obtain ⟨M, M0, H0, G, x, h8, hx, ht⟩ := h
  refine ⟨M, M0, H0, G, x, h8, hx, mi G x _ _ (fun ds q J H1 k1 y D hD => ?_) ht⟩
  obtain ⟨hz, q⟩ := q
  obtain ⟨Gd, Y, wk, hGd, hY⟩ := y
  have h81 := h8.keep k1
  have hD0 : H0 D = none := by
    cases q : H0 D with
    | none => rfl
    | some u => exact absurd hD (h81.kp.some h81.wf0 (by rw [q]; simp))
  have w1 := h81.wipe vs
  have hsl : ∀ (j : Nat) (es : List PL.D), (wipeD G vs)[j]? = some (.o es) → (L2.wipe σ vs)[j]? ≠ some (some (.ref D)) := fun j es e z => by
    obtain ⟨p, us, e1, m1, f0, e2, l, r⟩ := w1.sl j _ e
    rw [e1] at z
    cases z
    rw [hD] at e2
    cases e2
  have ne1 : ∀ {a : Addr} {o : HO}, H1 a = some o → a ≠ D := fun {a o} e z => by subst z; rw [hD] at e; cases e
  refine lc_it wk (fun i Hc => ∃ (acc : List PL.D) (avs : List V), S8 K (own M D) M0 H0 (wipeD G vs) (L2.wipe σ vs) Hc ∧ Ext M H1 (own M D) Hc ∧ ((∀ a o, M a ≠ 2 → H1 a = some o → Hc a = some o) ∧ ∀ a c, M a = 2 → BagC M H1 a c → BagC (own M D) Hc a c) ∧ Hc D = some (.lst avs) ∧ Reps K (own M D) Hc acc avs ∧ acc.length ≤ i ∧
    compD p tt te (wipeD G vs) x (ds.drop i) acc (fun ds => ∀ p vs H', Keep M H H' → H p = none → H' p = some (.lst vs) → ds.length ≤ sizeLine → Reps K (own M p) H' ds vs → Q (.ref p) H')) ?_ ?_ ?_ ?_
  · exact ⟨[], [], w1.mark hD (Keep.new hD) (by rw [upd_same]; simp), ext_own h81.wf hD, ⟨(Keep.new (M := M) hD).k, fun a c hm b => (((Keep.new hD).b a c hm b).mk (by rw [own_ne (Ne.symm (b.ne hD).2)]; exact b.zero))⟩, upd_same, Reps.nil, Nat.le_refl _, q⟩
  · rintro i Hc hi ⟨acc, avs, s8, ex, _⟩
    exact hGd _ Hc ex
  · rintro i v Hc H2 hi ⟨acc, avs, s8, ex, kp, eD, rs, hl, cp⟩ hy
    obtain ⟨gr, d, hd, rd⟩ := hY i Hc v H2 (own M D) hi s8.wf ex hy
    rw [drop_at hd] at cp
    obtain ⟨asg, eb, cp⟩ := cp
    have s8' := s8.keep (Grow.keep gr)
    refine ⟨own M D, d, asg, s8'.wf, rd, eb, fun ws rws => ⟨?_, ?_⟩⟩
    · rw [wipe_setAll (fun j hj => by rw [bind_slots eb] at hj; exact hp j hj), wipe_wipe]
    · have s9 := s8'.setAll rws
      refine liftT_mk s9 hx mt cp fun b H3 h3 k3 pb => ?_
      have kk3 : Keep (own M D) Hc H3 := (Grow.keep gr).trans k3
      have s83 := s8.keep kk3
      have own2 : ∀ {a : Addr}, M a = 2 → own M D a = 2 := fun {a} hm => by rw [own_ne (fun z => by subst z; exact absurd hD (h81.wf.t a (by rw [hm]; decide)))]; exact hm
      have own1 : ∀ {H H' : Hp}, Keep (own M D) H H' → ∀ a o, M a ≠ 2 → H a = some o → H' a = some o := fun {H H'} k a o hm e => k.k a o (fun z => hm (own_two z).2) e
      cases b with
      | false =>
        rw [if_neg (by decide)]
        exact ⟨acc, avs, s83, ex.trans kk3.ext, ⟨fun a o hm e => own1 kk3 a o hm (kp.1 a o hm e), fun a c hm b => kk3.b a c (own2 hm) (kp.2 a c hm b)⟩, kk3.k D _ (by rw [own_at]; decide) eD, rs.keep kk3, by omega, pb.2 rfl⟩
      | true =>
        rw [if_pos rfl]
        refine liftE_mk h3 hx me (pb.1 rfl) fun d2 v2 H4 h4 k4 r4 p4 => ?_
        have kk4 := kk3.trans k4
        have s84 := s8.keep kk4
        have eD4 := kk4.k D _ (by rw [own_at]; decide) eD
        have hlt : i < ds.length := hi
        refine ⟨avs, eD4, by have := rs.length; omega, acc ++ [d2], avs ++ [v2], ?_⟩
        have s8w : S8 K (own M D) M0 H0 (wipeD G vs) (L2.wipe σ vs) (upd H4 D (.lst (avs ++ [v2]))) := s84.wr own_at hD0 hsl
        refine ⟨s8w, (ex.trans kk4.ext).trans (ext_wr own_at), ⟨fun a o hm e => ?_, fun a c hm b => bag_wr (kk4.b a c (own2 hm) (kp.2 a c hm b)) (own2 hm) own_at⟩, upd_same, ((rs.keep kk4).append (Reps.cons r4 Reps.nil)).ext (ext_wr own_at), by rw [List.length_append]; simp only [List.length_cons, List.length_nil]; omega, p4⟩
        rw [upd_ne (ne1 e)]
        exact own1 kk4 a o hm (kp.1 a o hm e)
  · rintro Hc ⟨acc, avs, s8, ex, kp, eD, rs, hl, cp⟩
    rw [List.drop_length] at cp
    unfold compD at cp
    refine cp D avs Hc (k1.trans ⟨kp.1, fun a c hm b => (kp.2 a c hm b).mk b.zero⟩) ?_ eD (by omega) rs
    cases e : H D with
    | none => rfl
    | some o => exact absurd hD (k1.some h8.wf (by rw [e]; simp))
theorem mono_lc {ti : TDI} {p : Pat} {tt : TDT} {te : TD} {vs : List Nat} (mi : MonoD ti) (mt : MonoD tt) (me : MonoD te) : MonoD (fLc ti p tt te vs) :=
  fun G x Q Q' i h => mi G x _ _ (fun ds h => ⟨h.1, mono_comp mt me _ _ _ _ i h.2⟩) h
section
variable {X : Cx} {W : XK}
theorem pdf_lc {elt tg iter : Expr} {ifs : List Expr} {scope : Scope} {ow : List (Str × Nat)} {pos : Pos} {ti : TDI} {p : Pat} {tt : TDT} {te : TD} (hc : X.calm = true) (hN : X.N.Nodup) (hi : PDI X W tg iter ti) (ok : BlkOk X.N X.env.scope scope ow)
    (hg : ∀ (s : Shared) (H : Hp) (C : Addr) (cl : List (Str × Addr)) (fp : List Addr), PG (X.blk s H scope (compEnvC scope cl C X.env) fp) tg (liftP X.K p)) (ht : ∀ (s : Shared) (H : Hp) (C : Addr) (cl : List (Str × Addr)) (fp : List Addr), PDTs (X.blk s H scope (compEnvC scope cl C X.env) fp) W ifs tt)
    (he : ∀ (s : Shared) (H : Hp) (C : Addr) (cl : List (Str × Addr)) (fp : List Addr), PD (X.blk s H scope (compEnvC scope cl C X.env) fp) W elt te) (hp : (p.slots.all fun i => (ow.map (·.2)).contains i) = true := by rfl) (hs : ∀ x, foldedSetIterable iter X.env x = pure x := by intro _; rfl) :
    PDF X W (.ListComp elt [⟨tg, iter, ifs, 0⟩] scope pos) (fLc ti p tt te (ow.map (·.2))) := by
  have mt := (ht X.s_0 X.H_0 0 [] []).mono
  have me := (he X.s_0 X.H_0 0 [] []).mono
  have hp' : ∀ i ∈ p.slots, i ∈ ow.map (·.2) := fun i hi => List.contains_iff_mem.mp (List.all_eq_true.mp hp i hi)
  exact ⟨PE.weaken (pe_lc hc hN hi.run ok hg (fun s H C cl fp => (ht s H C cl fp).run) (fun s H C cl fp => (he s H C cl fp).run) hs) fun _ _ _ h => lift_lc hi.mono mt me hp' h, mono_lc hi.mono mt me⟩
end
end PL

set_option Elab.async false
set_option linter.all false
set_option maxRecDepth 100000
set_option maxHeartbeats 4000000
namespace PL
open PySem PySem.Spec PyProof.Rows L2 RZ

/-! ### calls of defs -/
/-- a def's promise by data -/
abbrev SpD := List PL.D → XP → (PL.D → Prop) → Prop
def MonoSp (s : SpD) : Prop := ∀ ds x Q Q', (∀ d, Q d → Q' d) → s ds x Q → s ds x Q'
def liftSp (K : PySem.W.Frag) (n : Nat) (s : SpD) : Sp := fun vs H Q E => ∃ (M : Mk) (ds : List PL.D) (x : XP), Wf M H ∧ Reps K M H ds vs ∧ ds.length = n ∧ XOk K M H E x ∧ s ds x (fun d => ∀ v H', Keep M H H' → Rep K M H' d v → Q v H')
theorem liftSp_len {K : PySem.W.Frag} {n : Nat} {s : SpD} {vs : List V} {H : Hp} {Q : VK} {E : XK} (h : liftSp K n s vs H Q E) : vs.length = n := by
  obtain ⟨M, ds, x, w, r, l, _⟩ := h
  rw [← r.length, l]
def noX : XP := fun _ => False
def dCall (n : Nat) (s : SpD) (dds : List PL.D) (ta : TDA) : TD := fun G x Q => ta G x fun ds => (ds ++ dds).length = n ∧ s (ds ++ dds) noX Q
def dCallX (n : Nat) (s : SpD) (dds : List PL.D) (ta : TDA) : TD := fun G x Q => ta G x fun ds => (ds ++ dds).length = n ∧ s (ds ++ dds) x Q
/-- a promise by what is asked ahead and what holds behind; nothing is raised -/
def sRel (pre : List PL.D → Prop) (post : List PL.D → PL.D → Prop) : SpD := fun ds _ Q => pre ds ∧ ∀ d, post ds d → Q d
theorem mono_rel {pre : List PL.D → Prop} {post : List PL.D → PL.D → Prop} : MonoSp (sRel pre post) := fun ds x Q Q' i h => ⟨h.1, fun d p => i d (h.2 d p)⟩
theorem XOk.later {K : PySem.W.Frag} {W : XK} {M M0 : Mk} {H0 H : Hp} {G : Gm} {σ : L2.St} {x : XP} (h : S8 K M M0 H0 G σ H) (hx : XOk K M0 H0 W x) : XOk K M H W x :=
  fun C fs dx fv H' k e r q => hx C fs dx fv H' (h.keep0 k) e (r.ext (h.keep k).ext0) q
section
variable {X : Cx} {W : XK} {k n : Nat} {f C : Addr} {fd : FuncData} {ps : List Str} {s : SpD} {dvs : List V} {ds : List Value} {dds : List PL.D} {x m : Str} {p pos apos : Pos} {e o : Expr} {es : List Expr} {ta : TDA}
theorem mono_call (ms : MonoSp s) (ma : MonoD ta) : MonoD (dCall n s dds ta) := fun G x Q Q' i h => ma G _ _ _ (fun ds h => ⟨h.1, ms _ _ _ _ i h.2⟩) h
theorem mono_callX (ms : MonoSp s) (ma : MonoD ta) : MonoD (dCallX n s dds ta) := fun G x Q Q' i h => ma G _ _ _ (fun ds h => ⟨h.1, ms _ _ _ _ i h.2⟩) h
theorem lift_call {K : PySem.W.Frag} {E : XK} (ms : MonoSp s) (ma : MonoD ta) (hdd : ∀ M H, Reps K M H dds dvs) {σ : L2.St} {H : Hp} {Q : VK} (h : liftE K W (dCall n s dds ta) σ H Q) : tCall (liftSp K n s) dvs E (liftA K W ta) σ H Q := by
  obtain ⟨M, M0, H0, G, x, h, hx, ht⟩ := h
  refine liftA_mk h hx ma ht fun ds vs H1 h1 k1 r1 p1 => ?_
  exact ⟨M, ds ++ dds, noX, h1.wf, r1.append (hdd M H1), p1.1, XOk.none, ms _ _ _ _ (fun d q v H' k r => q v H' (k1.trans k) r) p1.2⟩
theorem lift_callX {K : PySem.W.Frag} (ms : MonoSp s) (ma : MonoD ta) (hdd : ∀ M H, Reps K M H dds dvs) {σ : L2.St} {H : Hp} {Q : VK} (h : liftE K W (dCallX n s dds ta) σ H Q) : tCall (liftSp K n s) dvs W (liftA K W ta) σ H Q := by
  obtain ⟨M, M0, H0, G, x, h, hx, ht⟩ := h
  refine liftA_mk h hx ma ht fun ds vs H1 h1 k1 r1 p1 => ?_
  exact ⟨M, ds ++ dds, x, h1.wf, r1.append (hdd M H1), p1.1, XOk.later h1 hx, ms _ _ _ _ (fun d q v H' k r => q v H' (k1.trans k) r) p1.2⟩
/-- a def of the text as its callers see it -/
structure FnC (X : Cx) (x : Str) (f : Addr) : Prop where
  mgf : X.mg x = some (.ref f)
  kp : PySem.W.keepIn X.K (.ref f) = true
theorem pd_call (F : FnOk X.prog X.w X.K X.mg X.base (L2.CX X.prog X.w) k f fd ps (liftSp X.K n s)) (ms : MonoSp s) (hr : Room k X.A) (hg : Gl X x) (hm : X.mg x = some (.ref f)) (hk : PySem.W.keepIn X.K (.ref f) = true) (hb : Binds X.K fd ps ds) (hd : Vals dvs ds) (hdd : ∀ M H, Reps X.K M H dds dvs)
    (ha : PDA X W (e :: es) ta) (hdb : (x == ("__debug__" : Str)) = false := by decide) (he : starEach (e :: es) X.env = (false, eval e X.env) :: starEach es X.env := by rfl) (hpl : (backTo pos (starEach es X.env)).any (·.1) = false := by rfl) :
    PD X W (.Call (.Name x p) (e :: es) [] pos) (dCall n s dds ta) :=
  ⟨PE.weaken (pe_call F hr hg hm hk hb hd passL ha.run hdb he hpl) fun _ _ _ h => lift_call ms ha.mono hdd h, mono_call ms ha.mono⟩
theorem pd_call0 (F : FnOk X.prog X.w X.K X.mg X.base (L2.CX X.prog X.w) k f fd ps (liftSp X.K n s)) (ms : MonoSp s) (hr : Room k X.A) (hg : Gl X x) (hm : X.mg x = some (.ref f)) (hk : PySem.W.keepIn X.K (.ref f) = true) (hb : Binds X.K fd ps ds) (hd : Vals dvs ds) (hdd : ∀ M H, Reps X.K M H dds dvs)
    (hdb : (x == ("__debug__" : Str)) = false := by decide) : PD X W (.Call (.Name x p) [] [] pos) (dCall n s dds aNil) := by
  refine ⟨PE.weaken (pe_call0 F hr hg hm hk hb hd passL hdb) fun σ H Q h => ?_, mono_call ms (pda_nil (X := X) (W := W)).mono⟩
  obtain ⟨M, M0, H0, G, x, h, hx, ht⟩ := h
  have ht2 : ([] ++ dds).length = n ∧ s ([] ++ dds) noX (fun d => ∀ v H', Keep M H H' → Rep X.K M H' d v → Q v H') := ht
  exact ⟨M, dds, noX, h.wf, hdd M H, by simpa using ht2.1, XOk.none, ht2.2⟩
/-- .. that may raise -/
theorem pd_callX (F : FnOk X.prog X.w X.K X.mg X.base (L2.CX X.prog X.w) k f fd ps (liftSp X.K n s)) (ms : MonoSp s) (hr : Room k X.A) (hg : Gl X x) (hm : X.mg x = some (.ref f)) (hk : PySem.W.keepIn X.K (.ref f) = true) (hb : Binds X.K fd ps ds) (hd : Vals dvs ds) (hdd : ∀ M H, Reps X.K M H dds dvs)
    (hx : Passes (L2.CX X.prog X.w) X W) (ha : PDA X W (e :: es) ta) (hdb : (x == ("__debug__" : Str)) = false := by decide) (he : starEach (e :: es) X.env = (false, eval e X.env) :: starEach es X.env := by rfl) (hpl : (backTo pos (starEach es X.env)).any (·.1) = false := by rfl) :
    PD X W (.Call (.Name x p) (e :: es) [] pos) (dCallX n s dds ta) :=
  ⟨PE.weaken (pe_call F hr hg hm hk hb hd hx ha.run hdb he hpl) fun _ _ _ h => lift_callX ms ha.mono hdd h, mono_callX ms ha.mono⟩
end

/-! ### keywords -/
/-- the items at these places -/
def gPick {α : Type} (idx : List Nat) (l : List α) : List α := idx.filterMap fun i => l[i]?
theorem gPick_reps {K : PySem.W.Frag} {M : Mk} {H : Hp} {ds : List PL.D} {vs : List V} (r : Reps K M H ds vs) : ∀ idx : List Nat, Reps K M H (gPick idx ds) (gPick idx vs)
  | [] => Reps.nil
  | i :: idx => by
    have ih := gPick_reps r idx
    unfold gPick at ih ⊢
    rw [List.filterMap_cons, List.filterMap_cons]
    cases e : ds[i]? with
    | none =>
      have e2 : vs[i]? = none := by
        rw [List.getElem?_eq_none_iff] at e ⊢
        rw [← r.length]; exact e
      rw [e2]
      exact ih
    | some d =>
      obtain ⟨v, e2, r2⟩ := r.getD e
      rw [e2]
      exact Reps.cons r2 ih
theorem gPick_vals {vs : List V} {us : List Value} (r : Vals vs us) : ∀ idx : List Nat, Vals (gPick idx vs) (gPick idx us)
  | [] => .nil
  | i :: idx => by
    have ih := gPick_vals r idx
    unfold gPick at ih ⊢
    rw [List.filterMap_cons, List.filterMap_cons]
    cases e : vs[i]? with
    | none => rw [r.none_of e]; exact ih
    | some d =>
      obtain ⟨v, e2, r2⟩ := r.get e
      rw [e2]
      exact .cons r2 ih
structure PDK (X : Cx) (W : XK) (kws : List Keyword) (t : TDA) : Prop where
  run : PK X kws (liftA X.K W t)
  mono : MonoD t
theorem PK.weaken {X : Cx} {es : List Keyword} {t t' : TA} (h : PK X es t) (w : ∀ σ H Q, t' σ H Q → t σ H Q) : PK X es t' := ⟨fun pos pins s σ H Q I q => h.run pos pins s σ H Q I (w _ _ _ q)⟩
/-- f(e, .., k = v, ..): the values in the parameters' order by their places in written ones, keywords' ones, defaults -/
def dCallK (n np nk : Nat) (s : SpD) (idx : List Nat) (dds : List PL.D) (ta tk : TDA) : TD := fun G x Q => ta G x fun ds => tk G x fun es => (ds.length = np ∧ es.length = nk ∧ (gPick idx (ds ++ (es ++ dds))).length = n) ∧ s (gPick idx (ds ++ (es ++ dds))) noX Q
def dCallKX (n np nk : Nat) (s : SpD) (idx : List Nat) (dds : List PL.D) (ta tk : TDA) : TD := fun G x Q => ta G x fun ds => tk G x fun es => (ds.length = np ∧ es.length = nk ∧ (gPick idx (ds ++ (es ++ dds))).length = n) ∧ s (gPick idx (ds ++ (es ++ dds))) x Q
section
variable {X : Cx} {W : XK} {E : XK} {k n np nk : Nat} {f C : Addr} {fd : FuncData} {ps ks : List Str} {s : SpD} {dvs : List V} {dV : List Value} {dds : List PL.D} {idx : List Nat} {x m : Str} {p pos apos kpos : Pos} {e o : Expr} {es : List Expr} {kws : List Keyword} {ta tk : TDA} {t : TD} {nm : Option Str}
theorem pdk_nil : PDK X W [] aNil := ⟨PK.weaken pk_nil fun σ H Q ⟨M, M0, H0, G, x, h, hx, ht⟩ => ht [] H Keep.refl Reps.nil, fun _ _ _ _ i h => i _ h⟩
theorem pdk_cons (ha : PD X W e t) (hr : PDK X W kws tk) : PDK X W (⟨nm, e, kpos⟩ :: kws) (aCons t tk) := by
  refine ⟨PK.weaken (pk_cons ha.run hr.run) fun σ H Q h => ?_, fun G x Q Q' i h => ha.mono G x _ _ (fun d h => hr.mono G x _ _ (fun ds h => i _ h) h) h⟩
  obtain ⟨M, M0, H0, G, x, h, hx, ht⟩ := h
  refine liftE_mk h hx ha.mono ht fun d v H1 h1 k1 r1 p1 => ?_
  refine liftA_mk h1 hx hr.mono p1 fun ds vs H2 h2 k2 r2 p2 => ?_
  exact p2 _ H2 (k1.trans k2) (Reps.cons (r1.keep k2) r2)
/-- how such a call binds -/
abbrev KB (K : PySem.W.Frag) (fd : FuncData) (ps : List Str) (np : Nat) (ks : List Str) (idx : List Nat) (dV : List Value) (dvs : List V) : Prop := KBn K fd ps np ks (fun us ws => gPick idx (us ++ (ws ++ dV))) (fun us ws => gPick idx (us ++ (ws ++ dvs)))
theorem pe_callN0 {CX : CXT} {sp : Sp} {g : List Value → List Value → List Value} {gV : List V → List V → List V} {tk : TA} (F : FnOk X.prog X.w X.K X.mg X.base CX k f fd ps sp) (hr : Room k X.A) (hg : Gl X x) (hm : X.mg x = some (.ref f)) (hk : PySem.W.keepIn X.K (.ref f) = true) (hb : KBn X.K fd ps 0 ks g gV) (hx : Passes CX X E)
    (hkw : PK X kws tk) (hall : (backToKw pos (keywordEach kws X.env)).all (·.1.isSome) = true := by rfl) (hks : (backToKw pos (keywordEach kws X.env)).filterMap (·.1) = ks := by rfl)
    (hdb : (x == ("__debug__" : Str)) = false := by decide)
    (hpl : ((backTo pos (starEach [] X.env)).any (·.1) || (backToKw pos (keywordEach kws X.env)).any (·.1.isNone)) = false := by rfl) :
    PE X (.Call (.Name x p) [] kws pos) (tCallN 0 ks.length sp gV E tNil tk) := by
  refine ⟨fun pins s σ H Q I h => ?_⟩
  refine wpAny_Call_Name_kw (ld_glob I hg hm ?_ hdb)
  refine PySem.W.callWith_KW0 (h₀ := X.base) I.ok.mod.kin hk hall ?_ hpl
  refine thn (hkw.run pos pins s σ H _ I h) fun ws s2 ⟨zs, H2, I2, rz, l1, l2, q2⟩ => ⟨I2.kIn, ?_⟩
  rw [hks]
  exact run_fnN (us := []) (vs := []) F hr hb hx I2 .nil rz rfl l2 q2
theorem mono_callK (ms : MonoSp s) (ma : MonoD ta) (mk : MonoD tk) : MonoD (dCallK n np nk s idx dds ta tk) := fun G x Q Q' i h => ma G _ _ _ (fun ds h => mk G _ _ _ (fun es h => ⟨h.1, ms _ _ _ _ i h.2⟩) h) h
theorem lift_callK {K : PySem.W.Frag} (ms : MonoSp s) (ma : MonoD ta) (mk : MonoD tk) (hdd : ∀ M H, Reps K M H dds dvs) {σ : L2.St} {H : Hp} {Q : VK} (h : liftE K W (dCallK n np nk s idx dds ta tk) σ H Q) :
    tCallN np nk (liftSp K n s) (fun us ws => gPick idx (us ++ (ws ++ dvs))) E (liftA K W ta) (liftA K W tk) σ H Q := by
  obtain ⟨M, M0, H0, G, x, h, hx, ht⟩ := h
  refine liftA_mk h hx ma ht fun ds vs H1 h1 k1 r1 p1 => ?_
  refine liftA_mk h1 hx mk p1 fun es zs H2 h2 k2 r2 p2 => ?_
  refine ⟨by rw [← r1.length]; exact p2.1.1, by rw [← r2.length]; exact p2.1.2.1, M, _, noX, h2.wf, gPick_reps ((r1.keep k2).append (r2.append (hdd M H2))) idx, p2.1.2.2, XOk.none, ms _ _ _ _ (fun d q v H' k r => q v H' ((k1.trans k2).trans k) r) p2.2⟩
theorem pd_callK (F : FnOk X.prog X.w X.K X.mg X.base (L2.CX X.prog X.w) k f fd ps (liftSp X.K n s)) (ms : MonoSp s) (hr : Room k X.A) (hg : Gl X x) (hm : X.mg x = some (.ref f)) (hk : PySem.W.keepIn X.K (.ref f) = true) (hb : KB X.K fd ps np ks idx dV dvs) (hdd : ∀ M H, Reps X.K M H dds dvs)
    (ha : PDA X W (e :: es) ta) (hkw : PDK X W kws tk) (hall : (backToKw pos (keywordEach kws X.env)).all (·.1.isSome) = true := by rfl) (hks : (backToKw pos (keywordEach kws X.env)).filterMap (·.1) = ks := by rfl)
    (hdb : (x == ("__debug__" : Str)) = false := by decide) (he : starEach (e :: es) X.env = (false, eval e X.env) :: starEach es X.env := by rfl)
    (hpl : ((backTo pos (starEach (e :: es) X.env)).any (·.1) || (backToKw pos (keywordEach kws X.env)).any (·.1.isNone)) = false := by rfl) :
    PD X W (.Call (.Name x p) (e :: es) kws pos) (dCallK n np ks.length s idx dds ta tk) :=
  ⟨PE.weaken (pe_callN F hr hg hm hk hb passL ha.run hkw.run hall hks hdb he hpl) fun _ _ _ h => lift_callK ms ha.mono hkw.mono hdd h, mono_callK ms ha.mono hkw.mono⟩
theorem pd_callK0 (F : FnOk X.prog X.w X.K X.mg X.base (L2.CX X.prog X.w) k f fd ps (liftSp X.K n s)) (ms : MonoSp s) (hr : Room k X.A) (hg : Gl X x) (hm : X.mg x = some (.ref f)) (hk : PySem.W.keepIn X.K (.ref f) = true) (hb : KB X.K fd ps 0 ks idx dV dvs) (hdd : ∀ M H, Reps X.K M H dds dvs)
    (hkw : PDK X W kws tk) (hall : (backToKw pos (keywordEach kws X.env)).all (·.1.isSome) = true := by rfl) (hks : (backToKw pos (keywordEach kws X.env)).filterMap (·.1) = ks := by rfl)
    (hdb : (x == ("__debug__" : Str)) = false := by decide)
    (hpl : ((backTo pos (starEach [] X.env)).any (·.1) || (backToKw pos (keywordEach kws X.env)).any (·.1.isNone)) = false := by rfl) :
    PD X W (.Call (.Name x p) [] kws pos) (dCallK n 0 ks.length s idx dds aNil tk) := by
  refine ⟨PE.weaken (pe_callN0 F hr hg hm hk hb passL hkw.run hall hks hdb hpl) fun σ H Q h => ?_, mono_callK ms (pda_nil (X := X) (W := W)).mono hkw.mono⟩
  have h2 := lift_callK (E := E0) ms (pda_nil (X := X) (W := W)).mono hkw.mono hdd h
  obtain ⟨M, M0, H0, G, x, h8, hx, ht⟩ := h2
  exact ht [] H Keep.refl Reps.nil
/-- a def without defaults, by keywords -/
theorem FunD.kb {K : PySem.W.Frag} {qual : Str} {params : Arguments} {body : List Stmt} {scope : Scope} {kws : List (Str × V)} (F : FunD K x qual params body scope [] kws f fd) (np : Nat) (ks : List Str) (idx : List Nat)
    (h : ∀ (kV doc pm : Value) (an : Option Addr) (cdv ct : Value) (us ws : List Value), us.length = np → ws.length = ks.length → bindArgs (PySem.W.fnOf x qual params body scope .none kV doc pm an cdv ct) ⟨us, ks.zip ws⟩ = pure (ps.zip (gPick idx (us ++ (ws ++ []))))) : KB K fd ps np ks idx [] [] := by
  obtain ⟨oc, od, dV, kV, doc, pm, an, cdv, ct, osl, rfl, lk, hcd, hD, hK⟩ := F.ex
  rcases hD with ⟨_, rfl⟩ | ⟨e, _⟩
  · exact ⟨fun s us ws X l1 l2 => .of_eq (h kV doc pm an cdv ct us ws l1 l2), fun r1 r2 => gPick_vals (r1.append (r2.append .nil)) idx⟩
  · exact absurd rfl e
end

/-! ### statements -/
structure EndsD where
  nx : Gm → Prop
  rt : PL.D → Prop
  bk : Gm → Prop := fun _ => False
  ct : Gm → Prop := fun _ => False
abbrev TDS := Gm → XP → EndsD → Prop
structure EOk (K : PySem.W.Frag) (M0 : Mk) (H0 : Hp) (E : EndsD) (De : Ends) : Prop where
  nx : ∀ M G σ H, S8 K M M0 H0 G σ H → E.nx G → De.nx σ H
  rt : ∀ d v H, Keep M0 H0 H → Rep K M0 H d v → E.rt d → De.rt v H
  bk : ∀ M G σ H, S8 K M M0 H0 G σ H → E.bk G → De.bk σ H
  ct : ∀ M G σ H, S8 K M M0 H0 G σ H → E.ct G → De.ct σ H
def liftS (K : PySem.W.Frag) (W : XK) (t : TDS) : TS := fun De σ H => ∃ (M M0 : Mk) (H0 : Hp) (G : Gm) (x : XP) (E : EndsD), S8 K M M0 H0 G σ H ∧ XOk K M0 H0 W x ∧ EOk K M0 H0 E De ∧ t G x E
structure PDS (X : Cx) (W : XK) (st : Stmt) (t : TDS) : Prop where
  run : PS X st (liftS X.K W t)
structure PDSs (X : Cx) (W : XK) (st : List Stmt) (t : TDS) : Prop where
  run : PSs X st (liftS X.K W t)
def sNext : TDS := fun G _ E => E.nx G
def sSeq (t u : TDS) : TDS := fun G x E => t G x { E with nx := fun G' => u G' x E }
section
variable {X : Cx} {W : XK} {st : Stmt} {rest : List Stmt} {t u : TDS} {e : Expr} {te : TD} {pos : Pos}
theorem pdss_nil : PDSs X W [] sNext := ⟨PSs.weaken pss_nil fun De σ H ⟨M, M0, H0, G, x, E, h, hx, ho, ht⟩ => ho.nx M G σ H h ht⟩
theorem pdss_cons (h1 : PDS X W st t) (h2 : PDSs X W rest u) : PDSs X W (st :: rest) (sSeq t u) := ⟨PSs.weaken (pss_cons h1.run h2.run) fun De σ H ⟨M, M0, H0, G, x, E, h, hx, ho, ht⟩ =>
  ⟨M, M0, H0, G, x, { E with nx := fun G' => u G' x E }, h, hx, ⟨fun M' G' σ' H' h' q => ⟨M', M0, H0, G', x, E, h', hx, ho, q⟩, ho.rt, ho.bk, ho.ct⟩, ht⟩⟩
theorem pdss_one (h1 : PDS X W st t) : PDSs X W [st] t := ⟨pss_one h1.run⟩
theorem pds_pass : PDS X W (.Pass pos) sNext := ⟨PS.weaken ps_pass fun De σ H ⟨M, M0, H0, G, x, E, h, hx, ho, ht⟩ => ho.nx M G σ H h ht⟩
def sNever : TDS := fun _ _ _ => False
theorem pds_never : PDS X W st sNever := ⟨PS.weaken ps_never fun De σ H ⟨M, M0, H0, G, x, E, h, hx, ho, ht⟩ => ht⟩
theorem pdss_never {sts : List Stmt} : PDSs X W sts sNever := ⟨PSs.weaken pss_never fun De σ H ⟨M, M0, H0, G, x, E, h, hx, ho, ht⟩ => ht⟩
def sBreak : TDS := fun G _ E => E.bk G
def sCont : TDS := fun G _ E => E.ct G
theorem pds_break : PDS X W (.Break pos) sBreak := ⟨PS.weaken ps_break fun De σ H ⟨M, M0, H0, G, x, E, h, hx, ho, ht⟩ => ho.bk M G σ H h ht⟩
theorem pds_continue : PDS X W (.Continue pos) sCont := ⟨PS.weaken ps_continue fun De σ H ⟨M, M0, H0, G, x, E, h, hx, ho, ht⟩ => ho.ct M G σ H h ht⟩
def sDrop (t : TD) : TDS := fun G x E => t G x fun _ => E.nx G
theorem pds_expr (he : PD X W e te) (f : PE X e (liftE X.K W te) → PS X st (tDrop (liftE X.K W te))) : PDS X W st (sDrop te) := ⟨PS.weaken (f he.run) fun De σ H ⟨M, M0, H0, G, x, E, h, hx, ho, ht⟩ =>
  liftE_mk h hx he.mono ht fun d v H1 h1 k1 r1 p1 => ho.nx M G σ H1 h1 p1⟩
def sRet (t : TD) : TDS := fun G x E => t G x E.rt
theorem pds_ret (he : PD X W e te) : PDS X W (.Return (some e) pos) (sRet te) := ⟨PS.weaken (ps_ret he.run) fun De σ H ⟨M, M0, H0, G, x, E, h, hx, ho, ht⟩ =>
  liftE_mk h hx he.mono ht fun d v H1 h1 k1 r1 p1 => ho.rt d v H1 (h.keep0 k1) (r1.ext h1.ext0) p1⟩
def sRetN : TDS := fun _ _ E => E.rt .non
theorem pds_retN : PDS X W (.Return none pos) sRetN := ⟨PS.weaken ps_retN fun De σ H ⟨M, M0, H0, G, x, E, h, hx, ho, ht⟩ => ho.rt .non .non H h.kp rep_non ht⟩
def sIf (c : TDT) (t u : TDS) : TDS := fun G x E => c G x fun b => (b = true → t G x E) ∧ (b = false → u G x E)
theorem pds_if {c : Expr} {a b : List Stmt} {tc : TDT} (hc : PDT X W c tc) (ha : PDSs X W a t) (hb : PDSs X W b u) : PDS X W (.If c a b pos) (sIf tc t u) := ⟨PS.weaken (ps_if hc.run ha.run hb.run) fun De σ H ⟨M, M0, H0, G, x, E, h, hx, ho, ht⟩ =>
  liftT_mk h hx hc.mono ht fun b H1 h1 k1 p1 => by
    cases b with
    | true => exact ⟨M, M0, H0, G, x, E, h1, hx, ho, p1.1 rfl⟩
    | false => exact ⟨M, M0, H0, G, x, E, h1, hx, ho, p1.2 rfl⟩⟩
/-- name = e -/
def sSet (i : Nat) (t : TD) : TDS := fun G x E => t G x fun d => E.nx (G.set i (.v d))
theorem lift_set {K : PySem.W.Frag} {i : Nat} (m : MonoD te) {De : Ends} {σ : L2.St} {H : Hp} (h : liftS K W (sSet i te) De σ H) : tAsg (liftE K W te) (gName i) De σ H := by
  obtain ⟨M, M0, H0, G, x, E, h, hx, ho, ht⟩ := h
  exact liftE_mk h hx m ht fun d v H1 h1 k1 r1 p1 => ho.nx M _ _ H1 (h1.setv r1) p1
theorem pds_set {i : Nat} (he : PD X W e te) (f : PE X e (liftE X.K W te) → PS X st (tAsg (liftE X.K W te) (gName i))) : PDS X W st (sSet i te) := ⟨PS.weaken (f he.run) fun _ _ _ h => lift_set he.mono h⟩
/-- a, b = (a tuple) -/
def sAsg (p : Pat) (t : TD) : TDS := fun G x E => t G x fun d => ∃ asg, p.bind d = some asg ∧ E.nx (setAllD G asg)
theorem pds_asg {p : Pat} (he : PD X W e te) (f : PE X e (liftE X.K W te) → PS X st (tAsg (liftE X.K W te) (liftP X.K p))) : PDS X W st (sAsg p te) := ⟨PS.weaken (f he.run) fun De σ H ⟨M, M0, H0, G, x, E, h, hx, ho, ht⟩ =>
  liftE_mk h hx he.mono ht fun d v H1 h1 k1 r1 ⟨asg, eb, p1⟩ => ⟨M, d, asg, h1.wf, r1, eb, fun vs rv => ho.nx M _ _ H1 (h1.setAll rv) p1⟩⟩
/-- a, b = x, y; a, b, c = x, y, z -/
def sPar (is : List Nat) (ta : TDA) : TDS := fun G x E => ta G x fun ds => ds.length = is.length ∧ E.nx (setAllD G (is.zip ds))
theorem pds_par {i j : Nat} {es : List Expr} {ta : TDA} (ha : PDA X W es ta) (f : PA X es (liftA X.K W ta) → PS X st (tPar i j (liftA X.K W ta))) : PDS X W st (sPar [i, j] ta) := ⟨PS.weaken (f ha.run) fun De σ H ⟨M, M0, H0, G, x, E, h, hx, ho, ht⟩ =>
  liftA_mk h hx ha.mono ht fun ds vs H1 h1 k1 r1 p1 => by
    obtain ⟨l, p1⟩ := p1
    match ds, l with
    | [d, d2], _ =>
      obtain ⟨v, w, rfl, ra, rb⟩ := reps2 r1
      exact ⟨v, w, rfl, ho.nx M _ _ H1 ((h1.setv ra).setv rb) p1⟩⟩
theorem pds_par3 {i j l : Nat} {es : List Expr} {ta : TDA} (ha : PDA X W es ta) (f : PA X es (liftA X.K W ta) → PS X st (tPar3 i j l (liftA X.K W ta))) : PDS X W st (sPar [i, j, l] ta) := ⟨PS.weaken (f ha.run) fun De σ H ⟨M, M0, H0, G, x, E, h, hx, ho, ht⟩ =>
  liftA_mk h hx ha.mono ht fun ds vs H1 h1 k1 r1 p1 => by
    obtain ⟨l, p1⟩ := p1
    match ds, l with
    | [d, d2, d3], _ =>
      obtain ⟨v, ws, rfl, ra, rr⟩ := r1.cons_inv
      obtain ⟨w, z, rfl, rb, rc⟩ := reps2 rr
      exact ⟨v, w, z, rfl, ho.nx M _ _ H1 (((h1.setv ra).setv rb).setv rc) p1⟩⟩
/-- while -/
def sWhile (c : TDT) (b : TDS) : TDS := fun G x E => ∃ Wi : Nat → Gm → Prop, (∃ m, Wi m G) ∧ ∀ m G', Wi m G' → c G' x fun k =>
  (k = true → b G' x { nx := fun G2 => ∃ m', m' < m ∧ Wi m' G2, ct := fun G2 => ∃ m', m' < m ∧ Wi m' G2, bk := E.nx, rt := E.rt }) ∧ (k = false → E.nx G')
theorem pds_while {c : Expr} {body : List Stmt} {tc : TDT} (hp : PassesOwn (model X.prog X.w) X.A X.env X.xe) (hc : PDT X W c tc) (hb : PDSs X W body t) : PDS X W (.While c body [] pos) (sWhile tc t) := ⟨PS.weaken (ps_while hp hc.run hb.run) fun De σ H ⟨M, M0, H0, G, x, E, h, hx, ho, Wi, ⟨m0, w0⟩, turn⟩ => by
  refine ⟨fun m σ H => ∃ M G, S8 X.K M M0 H0 G σ H ∧ Wi m G, ⟨m0, M, G, h, w0⟩, ?_⟩
  rintro m σ H ⟨M, G, h, w⟩
  refine liftT_mk h hx hc.mono (turn m G w) fun b H1 h1 k1 p1 => ?_
  cases b with
  | true =>
    rw [if_pos rfl]
    refine ⟨fun σ' H' => ∃ m', m' < m ∧ ∃ M G, S8 X.K M M0 H0 G σ' H' ∧ Wi m' G, fun σ' H' q => q, M, M0, H0, G, x, { nx := fun G2 => ∃ m', m' < m ∧ Wi m' G2, ct := fun G2 => ∃ m', m' < m ∧ Wi m' G2, bk := E.nx, rt := E.rt }, h1, hx, ⟨?_, ho.rt, ho.nx, ?_⟩, p1.1 rfl⟩
    · rintro M' G' σ' H' h' ⟨m', l, q⟩; exact ⟨m', l, M', G', h', q⟩
    · rintro M' G' σ' H' h' ⟨m', l, q⟩; exact ⟨m', l, M', G', h', q⟩
  | false =>
    rw [if_neg (by decide)]
    exact ho.nx M G σ H1 h1 (p1.2 rfl)⟩
end
end PL

set_option Elab.async false
set_option linter.all false
set_option maxRecDepth 100000
set_option maxHeartbeats 4000000
namespace PL
open PySem PySem.Spec PyProof.Rows L2 RZ

/-! ### lists of a frame's own -/
section
variable {K : PySem.W.Frag} {M M0 : Mk} {H0 H H' : Hp} {G : Gm} {σ : L2.St}
/-- a new list at p becomes the list of slot i -/
theorem S8.seto (h : S8 K M M0 H0 G σ H) {i : Nat} {p : Addr} {ds : List PL.D} {vs : List V} (k : Keep M H H') (hp : H p = none) (e : H' p = some (.lst vs)) (z : ds.length ≤ sizeLine) (r : Reps K (own M p) H' ds vs) :
    S8 K (own M p) M0 H0 (G.set i (.o ds)) (σ.set i (some (.ref p))) H' := by
  have hm := h.mark hp k (by rw [e]; simp)
  have hp0 : H0 p = none := by
    cases q : H0 p with
    | none => rfl
    | some u => exact absurd hp (h.kp.some h.wf0 (by rw [q]; simp))
  have nos : ∀ {j : Nat} {es : List PL.D}, G[j]? = some (.o es) → σ[j]? ≠ some (some (.ref p)) := fun {j es} e1 z => by
    obtain ⟨q, us, e2, m1, f0, e3, l, rr⟩ := h.sl j _ e1
    rw [e2] at z
    cases z
    rw [hp] at e3
    cases e3
  refine ⟨hm.wf, hm.wf0, hm.mks, hm.bg, hm.kp, by simp [h.len], fun j s e1 => ?_, fun j l es fs e1 e2 e3 => ?_⟩
  · by_cases hj : i = j
    · subst hj
      rw [List.getElem?_set] at e1
      simp at e1
      obtain ⟨hl, e1⟩ := e1
      subst e1
      exact ⟨p, vs, by rw [List.getElem?_set_self (by rw [← h.len]; exact hl)], own_at, hp0, e, z, r⟩
    · rw [List.getElem?_set_ne hj] at e1 ⊢
      exact hm.sl j s e1
  · have f : ∀ {j : Nat} {es : List PL.D}, i ≠ j → (G.set i (.o ds))[j]? = some (.o es) → G[j]? = some (.o es) := fun {j es} hj e => by
      rw [List.getElem?_set_ne hj] at e
      exact e
    have il : ∀ {j : Nat} {es : List PL.D}, i = j → (G.set i (.o ds))[j]? = some (.o es) → (σ.set i (some (.ref p)))[j]? = some (some (.ref p)) := fun {j es} hj e => by
      subst hj
      rw [List.getElem?_set] at e
      simp at e
      rw [List.getElem?_set_self (by rw [← h.len]; exact e.1)]
    by_cases h1 : i = j
    · by_cases h2 : i = l
      · exact h1.symm.trans h2
      · rw [il h1 e1, List.getElem?_set_ne h2] at e3
        exact absurd e3.symm (nos (f h2 e2))
    · by_cases h2 : i = l
      · rw [il h2 e2, List.getElem?_set_ne h1] at e3
        exact absurd e3 (nos (f h1 e1))
      · rw [List.getElem?_set_ne h1, List.getElem?_set_ne h2] at e3
        exact h.dis j l es fs (f h1 e1) (f h2 e2) e3
/-- the list of slot i is changed -/
theorem S8.chg (h : S8 K M M0 H0 G σ H) {i : Nat} {es ds : List PL.D} {p : Addr} {vs : List V} (hi : G[i]? = some (.o es)) (hp : σ[i]? = some (some (.ref p))) (z : ds.length ≤ sizeLine) (r : Reps K M H ds vs) :
    S8 K M M0 H0 (G.set i (.o ds)) σ (upd H p (.lst vs)) := by
  obtain ⟨p', us, e1, m1, f0, e2, l, rr⟩ := h.sl i _ hi
  rw [hp] at e1
  cases e1
  -- the names but i
  have hu := h.setun i (some (.ref p))
  have hσ : σ.set i (some (.ref p)) = σ := by
    apply List.ext_getElem?
    intro j
    by_cases hj : i = j
    · subst hj
      rw [List.getElem?_set_self (List.getElem?_eq_some_iff.mp hp).1, hp]
    · rw [List.getElem?_set_ne hj]
  rw [hσ] at hu
  have hil : i < G.length := (List.getElem?_eq_some_iff.mp hi).1
  have w := hu.wr (D := p) (o := .lst vs) m1 f0 (fun j fs e z => by
    by_cases hj : i = j
    · subst hj; rw [List.getElem?_set_self hil] at e; cases e
    · rw [List.getElem?_set_ne hj] at e
      exact hj (h.dis i j es fs hi e (by rw [hp, z])))
  refine ⟨w.wf, w.wf0, w.mks, w.bg, w.kp, by simp [h.len], fun j s e => ?_, fun j l fs gs e1 e2 e3 => ?_⟩
  · by_cases hj : i = j
    · subst hj
      rw [List.getElem?_set_self hil] at e
      cases e
      exact ⟨p, vs, hp, m1, f0, upd_same, z, r.ext (ext_wr m1)⟩
    · rw [List.getElem?_set_ne hj] at e
      exact w.sl j s (by rw [List.getElem?_set_ne hj]; exact e)
  · have f : ∀ {j : Nat} {fs : List PL.D}, (G.set i (.o ds))[j]? = some (.o fs) → ∃ gs, G[j]? = some (.o gs) := fun {j fs} e => by
      by_cases hj : i = j
      · subst hj; exact ⟨es, hi⟩
      · rw [List.getElem?_set_ne hj] at e; exact ⟨fs, e⟩
    obtain ⟨g1, q1⟩ := f e1
    obtain ⟨g2, q2⟩ := f e2
    exact h.dis j l g1 g2 q1 q2 e3
/-- the mark of p taken away -/
def unm (M : Mk) (p : Addr) : Mk := fun a => if a = p then 0 else M a
theorem unm_at {p : Addr} : unm M p p = 0 := if_pos rfl
theorem unm_ne {p a : Addr} (h : a ≠ p) : unm M p a = M a := if_neg h
theorem unm_zero {p a : Addr} (h : M a = 0) : unm M p a = 0 := by
  by_cases e : a = p
  · subst e; exact unm_at
  · rw [unm_ne e]; exact h
theorem unm_two {p a : Addr} (h : unm M p a = 2) : M a = 2 ∧ a ≠ p := by
  by_cases e : a = p
  · subst e; rw [unm_at] at h; cases h
  · rw [unm_ne e] at h; exact ⟨h, e⟩
/-- the list of slot i is changed no more -/
theorem S8.freeze (h : S8 K M M0 H0 G σ H) {i : Nat} {ds : List PL.D} (hi : G[i]? = some (.o ds)) : ∃ (p : Addr) (vs : List V), S8 K (unm M p) M0 H0 (G.set i (.v (.lst ds))) σ H ∧ M p = 1 ∧ H p = some (.lst vs) := by
  obtain ⟨p, vs, e1, m1, f0, e2, l, rr⟩ := h.sl i _ hi
  have hil : i < G.length := (List.getElem?_eq_some_iff.mp hi).1
  have ex : Ext M H (unm M p) H := ⟨fun a o hm e => ⟨unm_zero hm, e⟩, fun a hm => by rw [unm_ne (fun z => by subst z; rw [m1] at hm; cases hm)]; exact hm⟩
  refine ⟨p, vs, ⟨⟨fun a hm => ?_, fun a hm => ?_⟩, h.wf0, fun a ha => ?_, fun a hm => h.bg a (unm_two hm).1, h.kp, by simp [h.len], fun j s e => ?_, fun j k es fs g1 g2 g3 => ?_⟩, m1, e2⟩
  · by_cases ha : a = p
    · subst ha; rw [e2]; simp
    · rw [unm_ne ha] at hm; exact h.wf.t a hm
  · obtain ⟨c, hb⟩ := h.wf.b a (unm_two hm).1
    exact ⟨c, hb.mk (unm_zero hb.zero)⟩
  · rw [unm_ne (fun z => by subst z; exact ha f0)]; exact h.mks a ha
  · by_cases hj : i = j
    · subst hj
      rw [List.getElem?_set_self hil] at e
      cases e
      refine ⟨_, e1, ?_⟩
      unfold Rep
      exact ⟨p, vs, rfl, ⟨unm_at, e2⟩, l, rr.ext ex⟩
    · rw [List.getElem?_set_ne hj] at e
      have q := h.sl j s e
      cases s with
      | un => exact trivial
      | v d => obtain ⟨v, e3, r⟩ := q; exact ⟨v, e3, r.ext ex⟩
      | o es =>
        obtain ⟨p', us, e3, m3, f3, e4, l4, r4⟩ := q
        have ne : p' ≠ p := fun z => by subst z; exact hj (h.dis i j ds es hi e (by rw [e1, e3]))
        exact ⟨p', us, e3, by rw [unm_ne ne]; exact m3, f3, e4, l4, r4.ext ex⟩
  · have f : ∀ {j : Nat} {fs : List PL.D}, (G.set i (.v (.lst ds)))[j]? = some (.o fs) → G[j]? = some (.o fs) := fun {j fs} e => by
      by_cases hj : i = j
      · subst hj; rw [List.getElem?_set_self hil] at e; cases e
      · rw [List.getElem?_set_ne hj] at e; exact e
    exact h.dis j k es fs (f g1) (f g2) g3
theorem Keep.unm {p : Addr} (k : Keep (unm M p) H H') (hp : M p = 1) : Keep M H H' := ⟨fun a o hm e => k.k a o (fun z => hm (unm_two z).1) e, fun a c hm b => by
  have hm' : PL.unm M p a = 2 := by rw [unm_ne (fun z => by subst z; rw [hp] at hm; cases hm)]; exact hm
  exact (k.b a c hm' (b.mk (unm_zero b.zero))).mk b.zero⟩
end
section
variable {X : Cx} {W : XK} {st : Stmt} {e : Expr} {te : TD} {t : TDS} {pos : Pos}
/-- name = a new list that will be changed -/
def sOwn (i : Nat) (t : TDF) : TDS := fun G x E => t G x fun ds => E.nx (G.set i (.o ds))
theorem lift_own {K : PySem.W.Frag} {i : Nat} {tf : TDF} (m : MonoD tf) {De : Ends} {σ : L2.St} {H : Hp} (h : liftS K W (sOwn i tf) De σ H) : tAsg (liftF K W tf) (gName i) De σ H := by
  obtain ⟨M, M0, H0, G, x, E, h, hx, ho, ht⟩ := h
  exact ⟨M, M0, H0, G, x, h, hx, m G x _ _ (fun ds q p vs H' k hp e z r => ho.nx _ _ _ H' (h.seto k hp e z r) q) ht⟩
theorem pds_own {i : Nat} {tf : TDF} (he : PDF X W e tf) (f : PE X e (liftF X.K W tf) → PS X st (tAsg (liftF X.K W tf) (gName i))) : PDS X W st (sOwn i tf) := ⟨PS.weaken (f he.run) fun _ _ _ h => lift_own he.mono h⟩
/-- .. that will not -/
theorem lift_setF {K : PySem.W.Frag} {i : Nat} {tf : TDF} (m : MonoD tf) {De : Ends} {σ : L2.St} {H : Hp} (h : liftS K W (sSet i (dNew tf)) De σ H) : tAsg (liftF K W tf) (gName i) De σ H := by
  obtain ⟨M, M0, H0, G, x, E, h, hx, ho, ht⟩ := h
  refine ⟨M, M0, H0, G, x, h, hx, m G x _ _ (fun ds q p vs H' k hp e z r => ho.nx M _ _ H' ((h.keep k).setv ?_) q) ht⟩
  unfold Rep
  exact ⟨p, vs, rfl, ⟨h.wf.zero hp, e⟩, z, r.ext ext_unown⟩
/-- a list that was changed is changed no more -/
def sFrz (i : Nat) (t : TDS) : TDS := fun G x E => ∃ ds, G[i]? = some (.o ds) ∧ t (G.set i (.v (.lst ds))) x E
theorem pds_frz {i : Nat} (h : PDS X W st t) : PDS X W st (sFrz i t) := ⟨PS.weaken h.run fun De σ H ⟨M, M0, H0, G, x, E, h, hx, ho, ds, hi, ht⟩ => let ⟨p, vs, h', _⟩ := h.freeze hi; ⟨unm M p, M0, H0, _, x, E, h', hx, ho, ht⟩⟩
theorem pdss_frz {i : Nat} {sts : List Stmt} (h : PDSs X W sts t) : PDSs X W sts (sFrz i t) := ⟨PSs.weaken h.run fun De σ H ⟨M, M0, H0, G, x, E, h, hx, ho, ds, hi, ht⟩ => let ⟨p, vs, h', _⟩ := h.freeze hi; ⟨unm M p, M0, H0, _, x, E, h', hx, ho, ht⟩⟩
/-- no list in it -/
def D.noL : PL.D → Bool
  | .lst _ => false
  | .scr _ => false
  | .tup xs => noLs xs
  | _ => true
where noLs : List PL.D → Bool
  | [] => true
  | x :: xs => D.noL x && noLs xs
mutual
theorem noL_rep {K : PySem.W.Frag} {M : Mk} {H : Hp} {p : Addr} {vs : List V} (hp : H p = some (.lst vs)) (hm : M p = 1) : ∀ {d : PL.D} {v : V}, d.noL = true → Rep K (unm M p) H d v → Rep K M H d v
  | .non, _, _, h => by unfold Rep at h ⊢; exact h
  | .bl _, _, _, h => by unfold Rep at h ⊢; exact h
  | .int _, _, _, h => by unfold Rep at h ⊢; exact h
  | .str _, _, _, h => by unfold Rep at h ⊢; exact h
  | .ty _, _, _, h => by unfold Rep at h ⊢; exact h
  | .cls _, _, _, h => by unfold Rep at h ⊢; exact h
  | .lst _, _, n, _ => by unfold D.noL at n; cases n
  | .scr _, _, n, _ => by unfold D.noL at n; cases n
  | .bag, _, _, h => by
    unfold Rep at h ⊢
    obtain ⟨a, e, h⟩ := h
    refine ⟨a, e, ?_⟩
    exact (unm_two h).1
  | .tup xs, _, n, h => by
    unfold Rep at h ⊢
    obtain ⟨a, us, e, f, l, r⟩ := h
    unfold D.noL at n
    refine ⟨a, us, e, ?_, l, noLs_reps hp hm n r⟩
    rcases f with ⟨m, f⟩ | f
    · have ha : a ≠ p := fun z => by subst z; rw [hp] at f; cases f
      rw [unm_ne ha] at m
      exact .inl ⟨m, f⟩
    · exact .inr f
theorem noLs_reps {K : PySem.W.Frag} {M : Mk} {H : Hp} {p : Addr} {vs : List V} (hp : H p = some (.lst vs)) (hm : M p = 1) : ∀ {ds : List PL.D} {us : List V}, D.noL.noLs ds = true → Reps K (unm M p) H ds us → Reps K M H ds us
  | [], _, _, h => by unfold Reps at h ⊢; exact h
  | d :: ds, _, n, h => by
    obtain ⟨w, ws, rfl, r, rs⟩ := h.cons_inv
    unfold D.noL.noLs at n
    rw [Bool.and_eq_true] at n
    exact Reps.cons (noL_rep hp hm n.1 r) (noLs_reps hp hm n.2 rs)
end
/-- an expression that only reads the list of slot i -/
def dBor (i : Nat) (t : TD) : TD := fun G x Q => ∃ ds, G[i]? = some (.o ds) ∧ t (G.set i (.v (.lst ds))) x fun d => d.noL = true ∧ Q d
theorem pd_bor {i : Nat} (h : PD X W e te) : PD X W e (dBor i te) := by
  refine ⟨PE.weaken h.run fun σ H Q q => ?_, fun G x Q Q' i ⟨ds, e, q⟩ => ⟨ds, e, h.mono _ _ _ _ (fun d q => ⟨q.1, i _ q.2⟩) q⟩⟩
  obtain ⟨M, M0, H0, G, x, h8, hx, ds, hi, ht⟩ := q
  obtain ⟨p, vs, h', m1, e2⟩ := h8.freeze hi
  refine liftE_mk h' hx h.mono ht fun d v H1 h1 k1 r1 p1 => ?_
  exact p1.2 v H1 (k1.unm m1) (noL_rep (k1.k p _ (by rw [unm_at]; decide) e2) m1 p1.1 r1)
def tBor (i : Nat) (t : TDT) : TDT := fun G x Q => ∃ ds, G[i]? = some (.o ds) ∧ t (G.set i (.v (.lst ds))) x Q
theorem pdt_bor {i : Nat} {t : TDT} (h : PDT X W e t) : PDT X W e (tBor i t) := by
  refine ⟨PT.weaken h.run fun σ H Q q => ?_, fun G x Q Q' i ⟨ds, e, q⟩ => ⟨ds, e, h.mono _ _ _ _ i q⟩⟩
  obtain ⟨M, M0, H0, G, x, h8, hx, ds, hi, ht⟩ := q
  obtain ⟨p, vs, h', m1, e2⟩ := h8.freeze hi
  exact liftT_mk h' hx h.mono ht fun b H1 h1 k1 p1 => p1 H1 (k1.unm m1)
/-- xs.append(e) -/
def sApp (i : Nat) (t : TD) : TDS := fun G x E => ∃ ds, G[i]? = some (.o ds) ∧ t G x fun d => ds.length < sizeLine ∧ E.nx (G.set i (.o (ds ++ [d])))
theorem tyV_lst {K : PySem.W.Frag} {H : Hp} {p : Addr} {vs : List V} (e : H p = some (.lst vs)) : tyV K "list" (.ref p) H := .inl ⟨rfl, _, SqL.of e⟩
theorem pds_app {i : Nat} {arg nm : Expr} (ho : PE X nm (tVar i)) (he : PD X W arg te)
    (f : PE X nm (tVar i) → PA X [arg] (tCons (liftE X.K W te) tNil) → PS X st (tDrop (tBM X.K "list" rAppend (tVar i) (tCons (liftE X.K W te) tNil)))) (hs : starEach (arg :: []) X.env = (false, eval arg X.env) :: starEach [] X.env := by rfl) : PDS X W st (sApp i te) := by
  refine ⟨PS.weaken (f ho (pa_cons he.run pa_nil hs)) fun De σ H q => ?_⟩
  obtain ⟨M, M0, H0, G, x, E, h, hx, hoo, ds, hi, ht⟩ := q
  obtain ⟨p, vs, e1, m1, f0, e2, l, rr⟩ := h.sl i _ hi
  refine ⟨.ref p, e1, tyV_lst e2, ?_⟩
  refine liftE_mk h hx he.mono ht fun d v H1 h1 k1 r1 p1 => ?_
  obtain ⟨z, q⟩ := p1
  obtain ⟨p', us, e3, m3, f3, e4, l3, r3⟩ := h1.sl i _ hi
  rw [e1] at e3
  cases e3
  refine ⟨p, us, v, rfl, rfl, e4, by rw [← r3.length]; exact z, ?_⟩
  exact hoo.nx M _ _ _ (h1.chg hi e1 (by rw [List.length_append]; exact z) (r3.append (Reps.cons r1 Reps.nil))) q
/-- xs[k] = e -/
def sPut (i : Nat) (tk t : TD) : TDS := fun G x E => t G x fun d => ∃ ds, G[i]? = some (.o ds) ∧ tk G x fun j => match j with
  | .int j => ∃ n, ixN ds.length j = some n ∧ E.nx (G.set i (.o (ds.set n d)))
  | _ => False
theorem pds_put {i : Nat} {e2 nm : Expr} {tk : TD} (ho : PE X nm (tVar i)) (hk : PD X W e2 tk) (he : PD X W e te) (f : PS X st (tAsg (liftE X.K W te) (gSub (tVar i) (liftE X.K W tk) rSetL))) : PDS X W st (sPut i tk te) := by
  refine ⟨PS.weaken f fun De σ H q => ?_⟩
  obtain ⟨M, M0, H0, G, x, E, h, hx, hoo, ht⟩ := q
  refine liftE_mk h hx he.mono ht fun d v H1 h1 k1 r1 ⟨ds, hi, p1⟩ => ?_
  obtain ⟨p, vs, e1, m1, f0, e2, l, rr⟩ := h1.sl i _ hi
  refine ⟨.ref p, e1, ?_⟩
  refine liftE_mk h1 hx hk.mono p1 fun j u H2 h2 k2 r2 p2 => ?_
  obtain ⟨p', us, e3, m3, f3, e4, l3, r3⟩ := h2.sl i _ hi
  rw [e1] at e3
  cases e3
  cases j with
  | int j =>
    unfold Rep at r2
    subst r2
    obtain ⟨n, en, q⟩ := p2
    refine ⟨p, us, j, n, rfl, rfl, e4, by rw [← r3.length]; exact en, ?_⟩
    exact hoo.nx M _ _ _ (h2.chg hi e1 (by rw [List.length_set]; exact l3) (r3.set n (r1.keep k2))) q
  | _ => exact p2.elim
/-- xs.insert(k, e) -/
def sIns (i : Nat) (tk t : TD) : TDS := fun G x E => ∃ ds, G[i]? = some (.o ds) ∧ tk G x fun j => t G x fun d => match j with
  | .int j => 0 ≤ j ∧ j < 2 ^ 63 ∧ ds.length < sizeLine ∧ E.nx (G.set i (.o (ds.take j.toNat ++ [d] ++ ds.drop j.toNat)))
  | _ => False
abbrev rInsert : V → List V → Hp → VK → Prop := fun x vs H Q => ∃ (l : Addr) (xs : List V) (i : Int) (y : V), x = .ref l ∧ vs = [.int i, y] ∧ H l = some (.lst xs) ∧ xs.length < sizeLine ∧ 0 ≤ i ∧ i < 2 ^ 63 ∧
    Q .non (upd H l (.lst (xs.take i.toNat ++ [y] ++ xs.drop i.toNat)))
theorem pds_ins {i : Nat} {a1 a2 nm : Expr} {tk : TD} (ho : PE X nm (tVar i)) (hk : PD X W a1 tk) (he : PD X W a2 te)
    (f : PE X nm (tVar i) → PA X [a1, a2] (tCons (liftE X.K W tk) (tCons (liftE X.K W te) tNil)) → PS X st (tDrop (tBM X.K "list" rInsert (tVar i) (tCons (liftE X.K W tk) (tCons (liftE X.K W te) tNil))))) (hs : starEach [a1, a2] X.env = (false, eval a1 X.env) :: starEach [a2] X.env := by rfl) (hs2 : starEach [a2] X.env = (false, eval a2 X.env) :: starEach [] X.env := by rfl) : PDS X W st (sIns i tk te) := by
  refine ⟨PS.weaken (f ho (pa_cons hk.run (pa_cons he.run pa_nil hs2) hs)) fun De σ H q => ?_⟩
  obtain ⟨M, M0, H0, G, x, E, h, hx, hoo, ds, hi, ht⟩ := q
  obtain ⟨p, vs, e1, m1, f0, e2, l, rr⟩ := h.sl i _ hi
  refine ⟨.ref p, e1, tyV_lst e2, ?_⟩
  refine liftE_mk h hx hk.mono ht fun j u H1 h1 k1 r1 p1 => ?_
  refine liftE_mk h1 hx he.mono p1 fun d v H2 h2 k2 r2 p2 => ?_
  obtain ⟨p', us, e3, m3, f3, e4, l3, r3⟩ := h2.sl i _ hi
  rw [e1] at e3
  cases e3
  cases j with
  | int j =>
    unfold Rep at r1
    subst r1
    obtain ⟨j0, j1, z, q⟩ := p2
    refine ⟨p, us, j, v, rfl, rfl, e4, by rw [← r3.length]; exact z, j0, j1, ?_⟩
    exact hoo.nx M _ _ _ (h2.chg hi e1 (by simp only [List.length_append, List.length_take, List.length_drop, List.length_cons, List.length_nil]; omega) (((r3.take _).append (Reps.cons r2 Reps.nil)).append (r3.drop _))) q
  | _ => exact p2.elim
end

/-! ### for -/
def loopD (p : Pat) (b : TDS) (x : XP) : List PL.D → Gm → EndsD → Prop
  | [], G, E => E.nx G
  | d :: r, G, E => ∃ asg, p.bind d = some asg ∧ b (setAllD G asg) x { nx := fun G' => loopD p b x r G' E, ct := fun G' => loopD p b x r G' E, bk := E.nx, rt := E.rt }
def sFor (ti : TDI) (p : Pat) (b : TDS) : TDS := fun G x E => ti G x fun ds => loopD p b x ds G E
/-- the addresses of the lists of a frame's own -/
def isOwn (G : Gm) (σ : L2.St) (a : Addr) : Prop := ∃ (i : Nat) (ds : List PL.D), G[i]? = some (.o ds) ∧ σ[i]? = some (some (.ref a))
section
variable {K : PySem.W.Frag} {M M0 : Mk} {H0 H H' : Hp} {G : Gm} {σ : L2.St}
open Classical in
/-- a state as an entry: the frame's own lists are left out -/
theorem S8.rebase (h : S8 K M M0 H0 G σ H) : ∃ (M1 : Mk) (H1 : Hp), S8 K M M1 H1 G σ H ∧ (∀ (M' : Mk) (G' : Gm) (σ' : L2.St) (H' : Hp), S8 K M' M1 H1 G' σ' H' → S8 K M' M0 H0 G' σ' H' ∧ Ext M H M' H') ∧
    (∀ H', Keep M1 H1 H' → Keep M0 H0 H') ∧ (∀ (d : PL.D) (v : V) (H' : Hp), Rep K M1 H' d v → Rep K M0 H' d v) := by
  have ownM : ∀ {a : Addr}, isOwn G σ a → M a = 1 ∧ H0 a = none := fun {a} ⟨i, ds, e, e2⟩ => by
    obtain ⟨p, vs, e1, m1, f0, _⟩ := h.sl i _ e
    rw [e2] at e1
    cases e1
    exact ⟨m1, f0⟩
  have m_ne : ∀ {a : Addr}, ¬ isOwn G σ a → (fun a => if isOwn G σ a then 0 else M a) a = M a := fun h => if_neg h
  have h_ne : ∀ {a : Addr}, ¬ isOwn G σ a → (fun a => if isOwn G σ a then none else H a) a = H a := fun h => if_neg h
  have h_ow : ∀ {a : Addr}, isOwn G σ a → (fun a => if isOwn G σ a then none else H a) a = none := fun h => if_pos h
  have m_ow : ∀ {a : Addr}, isOwn G σ a → (fun a => if isOwn G σ a then 0 else M a) a = 0 := fun h => if_pos h
  generalize (fun a => if isOwn G σ a then 0 else M a) = M1 at *
  generalize (fun a => if isOwn G σ a then none else H a) = H1 at *
  have no1 : ∀ {a : Addr} {o : HO}, H1 a = some o → ¬ isOwn G σ a ∧ H a = some o := fun {a o} e => by
    by_cases ho : isOwn G σ a
    · rw [h_ow ho] at e; cases e
    · exact ⟨ho, by rw [← h_ne ho]; exact e⟩
  have no0 : ∀ {a : Addr}, H0 a ≠ none → ¬ isOwn G σ a := fun {a} e ho => e (ownM ho).2
  have two : ∀ {a : Addr}, M1 a = 2 → ¬ isOwn G σ a ∧ M a = 2 := fun {a} e => by
    by_cases ho : isOwn G σ a
    · rw [m_ow ho] at e; cases e
    · exact ⟨ho, by rw [← m_ne ho]; exact e⟩
  have nz : ∀ {a : Addr}, M a ≠ 1 → ¬ isOwn G σ a := fun {a} e ho => e (ownM ho).1
  have keep10 : ∀ H', Keep M1 H1 H' → Keep M0 H0 H' := fun H' k => by
    refine ⟨fun a o hm e => ?_, fun a c hm b => ?_⟩
    · have no := no0 (a := a) (by rw [e]; simp)
      exact k.k a o (by rw [m_ne no, h.mks a (by rw [e]; simp)]; exact hm) (by rw [h_ne no]; exact h.kp.k a o hm e)
    · have b2 := h.kp.b a c hm b
      obtain ⟨i, r, m, kk, ns, g1, g2, g3, g4⟩ := b
      have na := no0 (a := a) (by rw [g1]; simp)
      have nc := no0 (a := c) (by rw [g3]; simp)
      have m1c : M1 c = 0 := by rw [m_ne nc, h.mks c (by rw [g3]; simp)]; exact g2
      have m1a : M1 a = 2 := by rw [m_ne na, h.mks a (by rw [g1]; simp)]; exact hm
      obtain ⟨i, r, m, kk, ns, q1, q2, q3, q4⟩ := b2
      exact (k.b a c m1a ⟨i, r, m, kk, ns, by rw [h_ne na]; exact q1, m1c, by rw [h_ne nc]; exact q3, q4⟩).mk g2
  refine ⟨M1, H1, ⟨h.wf, ⟨fun a hm => ?_, fun a hm => ?_⟩, fun a ha => ?_, fun a hm => ?_, ⟨fun a o hm e => (no1 e).2, fun a c hm b => ?_⟩, h.len, fun i s e => ?_, h.dis⟩, fun M' G' σ' H' s => ⟨⟨s.wf, h.wf0, fun a ha => ?_, fun a hm => h.bg a (two (s.bg a hm)).2, keep10 H' s.kp, s.len, fun i t e => ?_, s.dis⟩, ⟨fun a o hm e => ?_, fun a hm => ?_⟩⟩, keep10, fun d v H' r => r.ext ⟨fun a o hm e => ⟨?_, e⟩, fun a hm => h.bg a (two hm).2⟩⟩
  · by_cases ho : isOwn G σ a
    · exact absurd (m_ow ho) hm
    · rw [h_ne ho]; rw [m_ne ho] at hm; exact h.wf.t a hm
  · obtain ⟨na, hm⟩ := two hm
    obtain ⟨c, i, r, m, kk, ns, q1, q2, q3, q4⟩ := h.wf.b a hm
    have nc := nz (a := c) (by rw [q2]; decide)
    exact ⟨c, i, r, m, kk, ns, by rw [h_ne na]; exact q1, by rw [m_ne nc]; exact q2, by rw [h_ne nc]; exact q3, q4⟩
  · by_cases ho : isOwn G σ a
    · exact absurd (h_ow ho) ha
    · rw [m_ne ho]
  · rw [m_ne (nz (by rw [hm]; decide))]; exact hm
  · obtain ⟨i, r, m, kk, ns, q1, q2, q3, q4⟩ := b
    exact ⟨i, r, m, kk, ns, (no1 q1).2, q2, (no1 q3).2, q4⟩
  · have q := h.sl i s e
    cases s with
    | un => exact trivial
    | v d => exact q
    | o ds =>
      obtain ⟨p, us, e3, m3, f3, e4, l4, r4⟩ := q
      exact ⟨p, us, e3, m3, h_ow ⟨i, ds, e, e3⟩, e4, l4, r4⟩
  · have no := no0 ha
    rw [s.mks a (by rw [h_ne no]; exact h.kp.some h.wf0 ha), m_ne no]
    exact h.mks a ha
  · have q := s.sl i t e
    cases t with
    | un => exact trivial
    | v d => exact q
    | o ds =>
      obtain ⟨p, us, e3, m3, f3, e4, l4, r4⟩ := q
      refine ⟨p, us, e3, m3, ?_, e4, l4, r4⟩
      cases q0 : H0 p with
      | none => rfl
      | some u =>
        have no := no0 (a := p) (by rw [q0]; simp)
        rw [h_ne no] at f3
        exact absurd f3 (h.kp.some h.wf0 (by rw [q0]; simp))
  · have no := nz (a := a) (by rw [hm]; decide)
    have e1 : H1 a = some o := by rw [h_ne no]; exact e
    have m1 : M1 a = 0 := by rw [m_ne no]; exact hm
    exact ⟨by rw [s.mks a (by rw [e1]; simp)]; exact m1, s.kp.k a o (by rw [m1]; decide) e1⟩
  · have no := nz (a := a) (by rw [hm]; decide)
    rw [s.mks a (by rw [h_ne no]; exact h.wf.t a (by rw [hm]; decide)), m_ne no]
    exact hm
  · cases Nat.decEq (M0 a) 0 with
    | isTrue q => exact q
    | isFalse q =>
      have q0 := h.wf0.t a q
      have no := no0 q0
      rw [m_ne no, h.mks a q0] at hm
      exact hm
end
section
variable {X : Cx} {W : XK} {tg iter : Expr} {body : List Stmt} {pos : Pos} {ti : TDI} {p : Pat} {b : TDS}
theorem pds_for (hp : PassesOwn (model X.prog X.w) X.A X.env X.xe) (hc : X.calm = true) (hi : PDI X W tg iter ti) (hg : PG X tg (liftP X.K p)) (hb : PDSs X W body b) (hs : ∀ x, foldedSetIterable iter X.env x = pure x := by intro _; rfl) : PDS X W (.For tg iter body [] pos) (sFor ti p b) := by
  refine ⟨PS.weaken (ps_for hp hc hi.run hg hb.run hs) fun De σ H q => ?_⟩
  obtain ⟨M, M0, H0, G, x, E, h, hx, ho, ht⟩ := q
  refine ⟨M, M0, H0, G, x, h, hx, hi.mono G x _ _ (fun ds q J H1 k1 y => ?_) ht⟩
  obtain ⟨Gd, Y, wk, hGd, hY⟩ := y
  obtain ⟨M1, Hb, s1, back, kb, rb⟩ := (h.keep k1).rebase
  have hx1 : XOk X.K M1 Hb W x := fun C fs dx fv H' k e r q => hx C fs dx fv H' (kb H' k) e ⟨r.1, ?_⟩ q
  · refine for_it wk (fun i σ' Hc => ∃ (Mc : Mk) (Gc : Gm), S8 X.K Mc M1 Hb Gc σ' Hc ∧ loopD p b x (ds.drop i) Gc E) ⟨M, G, s1, q⟩ ?_ ?_ ?_
    · rintro i σ' Hc hi ⟨Mc, Gc, s, _⟩
      exact hGd Mc Hc (back _ _ _ _ s).2
    · rintro i v σ' Hc H2 hi ⟨Mc, Gc, s, lp⟩ hy
      obtain ⟨gr, d, hd, rd⟩ := hY i Hc v H2 Mc hi s.wf (back _ _ _ _ s).2 hy
      rw [drop_at hd] at lp
      obtain ⟨asg, eb, lp⟩ := lp
      have s2 := s.keep (Grow.keep gr)
      refine ⟨Mc, d, asg, s2.wf, rd, eb, fun ws rws => ?_⟩
      refine ⟨Mc, M1, Hb, _, x, { nx := fun G' => loopD p b x (ds.drop (i + 1)) G' E, ct := fun G' => loopD p b x (ds.drop (i + 1)) G' E, bk := E.nx, rt := E.rt }, s2.setAll rws, hx1, ⟨fun M' G' σ2 H3 s3 q => ⟨M', G', s3, q⟩, fun d v H3 k r q => ho.rt d v H3 (kb H3 k) (rb d v H3 r) q, fun M' G' σ2 H3 s3 q => ho.nx M' G' σ2 H3 (back _ _ _ _ s3).1 q, fun M' G' σ2 H3 s3 q => ⟨M', G', s3, q⟩⟩, lp⟩
    · rintro σ' Hc ⟨Mc, Gc, s, lp⟩
      rw [List.drop_length] at lp
      exact ho.nx Mc Gc σ' Hc (back _ _ _ _ s).1 lp
  · have all : ∀ {ds : List PL.D} {vs : List V}, Reps X.K M1 H' ds vs → Reps X.K M0 H' ds vs := fun {ds} => by
      induction ds with
      | nil => intro vs r; rw [r.nil_inv]; exact Reps.nil
      | cons d ds ih =>
        intro vs r
        obtain ⟨w, ws, rfl, r1, rs⟩ := r.cons_inv
        exact Reps.cons (rb d w H' r1) (ih rs)
    exact all r.2
end

/-! ### a def by its body -/
def startD (n : Nat) (ds : List PL.D) : Gm := ds.map Sl.v ++ List.replicate (n - ds.length) .un
theorem def_ok {P : Program} {w : World} {K : PySem.W.Frag} {mg : Str → Option Value} {base : Heap} {x qual : Str} {params : Arguments} {body : List Stmt} {scope : Scope} {dvs : List V} {kws : List (Str × V)} {f : Addr} {fd : FuncData} {N ps : List Str} {k n : Nat} {s : SpD} {T : TDS}
    (F : FunD K x qual params body scope dvs kws f fd) (S : FnScope N ps scope) (hn : ps.length = n)
    (hbody : ∀ (cdv : Value) (A : Around) (outer : List Env) (st : Shared) (H : Hp) (E : XK), Room k (A.deeper (envOfC qual scope st.heap.objs.size f cdv)) → PDSs (cxOf (L2.CX P w) P w K mg base N qual scope f cdv A outer st H E) E body T)
    (hT : ∀ (ds : List PL.D) (x : XP) (Q : PL.D → Prop), ds.length = n → s ds x Q → T (startD N.length ds) x { nx := fun _ => Q .non, rt := Q }) : FnOk P w K mg base (L2.CX P w) (k + 1) f fd ps (liftSp K n s) := by
  refine F.ok S (fun vs H Q E h => by rw [liftSp_len h, hn]) (fun cdv A outer st H vs Q E hr h => ⟨_, (hbody cdv A outer st H E hr).run, ?_⟩)
  obtain ⟨M, ds, x, wf, r, l, hx, hs⟩ := h
  refine ⟨M, M, H, startD N.length ds, x, { nx := fun _ => ∀ v H', Keep M H H' → Rep K M H' .non v → Q v H', rt := fun d => ∀ v H', Keep M H H' → Rep K M H' d v → Q v H' }, ⟨wf, wf, fun _ _ => rfl, fun _ h => h, Keep.refl, ?_, fun i s e => ?_, fun i j ds' es e => ?_⟩, hx, ⟨fun M' G' σ' H' s8 q => q .non H' s8.kp rep_non, fun d v H' k r q => q v H' k r, fun _ _ _ _ _ q => q.elim, fun _ _ _ _ _ q => q.elim⟩, hT ds x _ l hs⟩
  · unfold startD L2.start
    rw [List.length_append, List.length_map, List.length_replicate, List.length_append, List.length_map, List.length_replicate, r.length]
  · unfold startD at e
    unfold L2.start
    by_cases hl : i < ds.length
    · rw [List.getElem?_append_left (by rw [List.length_map]; exact hl), List.getElem?_map] at e
      cases q : ds[i]? with
      | none => rw [q] at e; cases e
      | some d =>
        rw [q] at e
        cases e
        obtain ⟨v, e2, r2⟩ := r.getD q
        exact ⟨v, by rw [List.getElem?_append_left (by rw [List.length_map, ← r.length]; exact hl), List.getElem?_map, e2]; rfl, r2⟩
    · rw [List.getElem?_append_right (by rw [List.length_map]; omega)] at e
      have e2 := List.mem_of_getElem? e
      rw [List.eq_of_mem_replicate e2]
      exact trivial
  · unfold startD at e
    have e2 := List.mem_of_getElem? e
    rcases List.mem_append.mp e2 with e2 | e2
    · obtain ⟨d, _, z⟩ := List.mem_map.mp e2
      cases z
    · have z := List.eq_of_mem_replicate e2
      cases z
end PL

set_option Elab.async false
set_option linter.all false
set_option maxRecDepth 100000
set_option maxHeartbeats 4000000
namespace PL
open PySem PySem.Spec PyProof.Rows L2 RZ

/-! ### truth of any value -/
def dTru (t : TD) : TDT := fun G x Q => t G x fun d => match d with
  | .bl b => Q b
  | .int i => Q (i != 0)
  | .lst xs => Q (!xs.isEmpty)
  | .tup xs => Q (!xs.isEmpty)
  | .str z => z.length ≤ sizeLine ∧ Q ((z.length : Int) != 0)
  | .non => Q false
  | _ => False
theorem isEmpty_reps {K : PySem.W.Frag} {M : Mk} {H : Hp} {ds : List PL.D} {vs : List V} (r : Reps K M H ds vs) : vs.isEmpty = ds.isEmpty := by
  cases ds with
  | nil => rw [r.nil_inv]; rfl
  | cons d ds => obtain ⟨w, ws, rfl, _⟩ := r.cons_inv; rfl
section
variable {X : Cx} {W : XK} {e : Expr} {te : TD}
theorem pdt_truth (h : PD X W e te) (he : ∀ whole, isTrue e X.env whole = (do let v ← whole; standAt e.pos; holding [v] (truthy v)) := by intro _; rfl) : PDT X W e (dTru te) := by
  refine ⟨PT.weaken (pt_truth h.run he) fun σ H Q q => ?_, fun G x Q Q' i q => h.mono G x _ _ (fun d q => by cases d <;> first | exact i _ q | exact ⟨q.1, i _ q.2⟩ | exact q.elim) q⟩
  obtain ⟨M, M0, H0, G, x, hs, hx, ht⟩ := q
  refine liftE_mk hs hx h.mono ht fun d v H1 h1 k1 r1 p1 => ?_
  cases d with
  | bl b => unfold Rep at r1; subst r1; exact ⟨b, rfl, p1 H1 k1⟩
  | int i => unfold Rep at r1; subst r1; exact ⟨_, rfl, p1 H1 k1⟩
  | non => unfold Rep at r1; subst r1; exact ⟨false, rfl, p1 H1 k1⟩
  | str z => unfold Rep at r1; subst r1; exact ⟨_, ⟨p1.1, rfl⟩, p1.2 H1 k1⟩
  | lst xs =>
    obtain ⟨a, us, rfl, f, z, rs⟩ := rep_lst_inv r1
    exact ⟨_, .inl ⟨us, f.sq, by rw [isEmpty_reps rs]⟩, p1 H1 k1⟩
  | tup xs =>
    obtain ⟨a, us, rfl, f, z, rs⟩ := rep_tup_inv r1
    exact ⟨_, .inr (.inl ⟨us, f.sq, by rw [isEmpty_reps rs]⟩), p1 H1 k1⟩
  | _ => exact p1.elim
end

/-! ### what a body sees: the module's defs, constants, the built-ins -/
/-- a def, called by its parameters' places -/
structure Cal (P : Program) (w : World) (K : PySem.W.Frag) (mg : Str → Option Value) (base : Heap) (x : Str) (k n : Nat) (s : SpD) : Prop where
  ex : ∃ (f : Addr) (fd : FuncData) (ps : List Str), mg x = some (.ref f) ∧ PySem.W.keepIn K (.ref f) = true ∧ FnOk P w K mg base (L2.CX P w) k f fd ps (liftSp K n s) ∧ Binds K fd ps []
/-- .. with defaults behind the written ones -/
structure CalD (P : Program) (w : World) (K : PySem.W.Frag) (mg : Str → Option Value) (base : Heap) (x : Str) (k n : Nat) (s : SpD) (dds : List PL.D) : Prop where
  ex : ∃ (f : Addr) (fd : FuncData) (ps : List Str) (ds : List Value) (dvs : List V), mg x = some (.ref f) ∧ PySem.W.keepIn K (.ref f) = true ∧ FnOk P w K mg base (L2.CX P w) k f fd ps (liftSp K n s) ∧ Binds K fd ps ds ∧ Vals dvs ds ∧ ∀ M H, Reps K M H dds dvs
/-- .. by keywords -/
structure CalK (P : Program) (w : World) (K : PySem.W.Frag) (mg : Str → Option Value) (base : Heap) (x : Str) (k n : Nat) (s : SpD) (np : Nat) (ks : List Str) (idx : List Nat) (dds : List PL.D) : Prop where
  ex : ∃ (f : Addr) (fd : FuncData) (ps : List Str) (dV : List Value) (dvs : List V), mg x = some (.ref f) ∧ PySem.W.keepIn K (.ref f) = true ∧ FnOk P w K mg base (L2.CX P w) k f fd ps (liftSp K n s) ∧ KB K fd ps np ks idx dV dvs ∧ ∀ M H, Reps K M H dds dvs
/-- a constant of the module -/
structure Con (K : PySem.W.Frag) (mg : Str → Option Value) (x : Str) (d : PL.D) : Prop where
  ex : ∃ (v : V) (u : Value), mg x = some u ∧ RelV v u ∧ ∀ M H, Rep K M H d v
section
variable {X : Cx} {W : XK} {k n np nk : Nat} {s : SpD} {x : Str} {dds : List PL.D} {ks : List Str} {idx : List Nat} {p pos : Pos} {e : Expr} {es : List Expr} {kws : List Keyword} {ta tk : TDA} {d : PL.D}
theorem pd_con (c : Con X.K X.mg x d) (hg : Gl X x) (hd : (x == ("__debug__" : Str)) = false := by decide) : PD X W (.Name x pos) (dC d) := by
  obtain ⟨v, u, hm, r, rr⟩ := c.ex
  exact pd_c (pe_glob hg hm r hd) rr
theorem pd_cal (c : Cal X.prog X.w X.K X.mg X.base x k n s) (ms : MonoSp s) (hr : Room k X.A) (hg : Gl X x) (ha : PDA X W (e :: es) ta) (hdb : (x == ("__debug__" : Str)) = false := by decide) (he : starEach (e :: es) X.env = (false, eval e X.env) :: starEach es X.env := by rfl)
    (hpl : (backTo pos (starEach es X.env)).any (·.1) = false := by rfl) : PD X W (.Call (.Name x p) (e :: es) [] pos) (dCall n s [] ta) := by
  obtain ⟨f, fd, ps, hm, hk, F, hb⟩ := c.ex
  exact pd_call F ms hr hg hm hk hb .nil (fun _ _ => Reps.nil) ha hdb he hpl
theorem pd_cal0 (c : Cal X.prog X.w X.K X.mg X.base x k n s) (ms : MonoSp s) (hr : Room k X.A) (hg : Gl X x) (hdb : (x == ("__debug__" : Str)) = false := by decide) : PD X W (.Call (.Name x p) [] [] pos) (dCall n s [] aNil) := by
  obtain ⟨f, fd, ps, hm, hk, F, hb⟩ := c.ex
  exact pd_call0 F ms hr hg hm hk hb .nil (fun _ _ => Reps.nil) hdb
theorem pd_calD (c : CalD X.prog X.w X.K X.mg X.base x k n s dds) (ms : MonoSp s) (hr : Room k X.A) (hg : Gl X x) (ha : PDA X W (e :: es) ta) (hdb : (x == ("__debug__" : Str)) = false := by decide) (he : starEach (e :: es) X.env = (false, eval e X.env) :: starEach es X.env := by rfl)
    (hpl : (backTo pos (starEach es X.env)).any (·.1) = false := by rfl) : PD X W (.Call (.Name x p) (e :: es) [] pos) (dCall n s dds ta) := by
  obtain ⟨f, fd, ps, ds, dvs, hm, hk, F, hb, hv, hr2⟩ := c.ex
  exact pd_call F ms hr hg hm hk hb hv hr2 ha hdb he hpl
theorem pd_calK (c : CalK X.prog X.w X.K X.mg X.base x k n s np ks idx dds) (ms : MonoSp s) (hr : Room k X.A) (hg : Gl X x) (ha : PDA X W (e :: es) ta) (hkw : PDK X W kws tk) (hl : ks.length = nk := by rfl)
    (hall : (backToKw pos (keywordEach kws X.env)).all (·.1.isSome) = true := by rfl) (hks : (backToKw pos (keywordEach kws X.env)).filterMap (·.1) = ks := by rfl)
    (hdb : (x == ("__debug__" : Str)) = false := by decide) (he : starEach (e :: es) X.env = (false, eval e X.env) :: starEach es X.env := by rfl)
    (hpl : ((backTo pos (starEach (e :: es) X.env)).any (·.1) || (backToKw pos (keywordEach kws X.env)).any (·.1.isNone)) = false := by rfl) : PD X W (.Call (.Name x p) (e :: es) kws pos) (dCallK n np nk s idx dds ta tk) := by
  subst hl
  obtain ⟨f, fd, ps, dV, dvs, hm, hk, F, hb, hr2⟩ := c.ex
  exact pd_callK F ms hr hg hm hk hb hr2 ha hkw hall hks hdb he hpl
theorem pd_calK0 (c : CalK X.prog X.w X.K X.mg X.base x k n s 0 ks idx dds) (ms : MonoSp s) (hr : Room k X.A) (hg : Gl X x) (hkw : PDK X W kws tk) (hl : ks.length = nk := by rfl)
    (hall : (backToKw pos (keywordEach kws X.env)).all (·.1.isSome) = true := by rfl) (hks : (backToKw pos (keywordEach kws X.env)).filterMap (·.1) = ks := by rfl)
    (hdb : (x == ("__debug__" : Str)) = false := by decide)
    (hpl : ((backTo pos (starEach [] X.env)).any (·.1) || (backToKw pos (keywordEach kws X.env)).any (·.1.isNone)) = false := by rfl) : PD X W (.Call (.Name x p) [] kws pos) (dCallK n 0 nk s idx dds aNil tk) := by
  subst hl
  obtain ⟨f, fd, ps, dV, dvs, hm, hk, F, hb, hr2⟩ := c.ex
  exact pd_callK0 F ms hr hg hm hk hb hr2 hkw hall hks hdb hpl
theorem pd_blt {T : String} (hg : Gl X x) (hm : X.mg x = none) (hv : bootBuiltins x = some (.type T)) (hn : x ≠ "__name__" := by decide) (hd : (x == ("__debug__" : Str)) = false := by decide) : PD X W (.Name x pos) (dC (.ty T)) :=
  pd_c (pe_bltn hg hm hv (v := .ty T) rfl hn hd) fun _ _ => by unfold Rep; rfl
end

/-! ### name = [..] on one line -/
section
variable {X : Cx} {W : XK}
theorem lift_lc_set {K : PySem.W.Frag} {ti : TDI} {p : Pat} {tt : TDT} {te : TD} {vs : List Nat} {i : Nat} (mi : MonoD ti) (mt : MonoD tt) (me : MonoD te) (hp : ∀ i ∈ p.slots, i ∈ vs) {De : Ends} {σ : L2.St} {H : Hp}
    (h : tAsg (liftF K W (fLc ti p tt te vs)) (gName i) De σ H) : tAsg (tLc (liftI K W ti) (liftP K p) (liftT K W tt) (liftE K W te) vs) (gName i) De σ H := lift_lc mi mt me hp h
structure PSF (X : Cx) (W : XK) (st : Stmt) (i : Nat) (tf : TDF) : Prop where
  run : PS X st (tAsg (liftF X.K W tf) (gName i))
  mono : MonoD tf
theorem ps_lc {i : Nat} {y : Str} {py : Pos} {elt tg iter : Expr} {ifs : List Expr} {scope : Scope} {ow : List (Str × Nat)} {pos spos : Pos} {ti : TDI} {p : Pat} {tt : TDT} {te : TD} (hc : X.calm = true) (hN : X.N.Nodup) (hy : X.N[i]? = some y) (hyl : X.env.scope.names.lookup y = some .local)
    (hsw : swapsWith (.ListComp elt [⟨tg, iter, ifs, 0⟩] scope pos) (some (.Name y py)) spos.line X.env = pure true) (hi : PDI X W tg iter ti) (ok : BlkOk X.N X.env.scope scope ow)
    (hg : ∀ (s : Shared) (H : Hp) (C : Addr) (cl : List (Str × Addr)) (fp : List Addr), PG (X.blk s H scope (compEnvC scope cl C X.env) fp) tg (liftP X.K p)) (ht : ∀ (s : Shared) (H : Hp) (C : Addr) (cl : List (Str × Addr)) (fp : List Addr), PDTs (X.blk s H scope (compEnvC scope cl C X.env) fp) W ifs tt)
    (he : ∀ (s : Shared) (H : Hp) (C : Addr) (cl : List (Str × Addr)) (fp : List Addr), PD (X.blk s H scope (compEnvC scope cl C X.env) fp) W elt te) (hp : (p.slots.all fun i => (ow.map (·.2)).contains i) = true := by rfl) (hs : ∀ x, foldedSetIterable iter X.env x = pure x := by intro _; rfl) :
    PSF X W (.Assign [.Name y py] (.ListComp elt [⟨tg, iter, ifs, 0⟩] scope pos) spos) i (fLc ti p tt te (ow.map (·.2))) := by
  have mt := (ht X.s_0 X.H_0 0 [] []).mono
  have me := (he X.s_0 X.H_0 0 [] []).mono
  have hp' : ∀ i ∈ p.slots, i ∈ ow.map (·.2) := fun i hi => List.contains_iff_mem.mp (List.all_eq_true.mp hp i hi)
  refine ⟨PS.weaken (ps_setLc (i := i) hc hN hy hyl hsw hi.run ok hg (fun s H C cl fp => (ht s H C cl fp).run) (fun s H C cl fp => (he s H C cl fp).run) hs) fun _ _ _ h => lift_lc_set hi.mono mt me hp' h, mono_lc hi.mono mt me⟩
/-- kept as it is -/
theorem pds_setF {st : Stmt} {i : Nat} {tf : TDF} (h : PSF X W st i tf) : PDS X W st (sSet i (dNew tf)) := ⟨PS.weaken h.run fun _ _ _ q => lift_setF h.mono q⟩
/-- changed later -/
theorem pds_ownF {st : Stmt} {i : Nat} {tf : TDF} (h : PSF X W st i tf) : PDS X W st (sOwn i tf) := ⟨PS.weaken h.run fun _ _ _ q => lift_own h.mono q⟩
end
end PL

set_option Elab.async false
set_option linter.all false
set_option maxRecDepth 100000
set_option maxHeartbeats 4000000
namespace PL
open PySem PySem.Spec PyProof.Rows L2 RZ

/-! ### the bag of draws: _law_draw, _law_bag -/
abbrev ixB (K : PySem.W.Frag) (j : Int) : TE := tOp (rIxL K) (tVar 0) (tC (.int j))
abbrev setB (te : TE) (j : Int) : TS := tAsg te (gSub (tVar 0) (tC (.int j)) rSetL)
abbrev tPlus (a b : TE) : TE := tOp (rI0 fun i j => .int (i + j)) a b
abbrev tTimes (a b : TE) : TE := tOp (rI CMul fun i j => .int (i * j)) a b
abbrev tMod (a b : TE) : TE := tOp (rI (fun _ j => 0 < j) fun i j => .int (i % j)) a b
abbrev tDivW (a b : TE) : TE := tOp (rI CDivW fun i j => .int (i / j)) a b
abbrev tPow (a b : TE) : TE := tOp (rI CPow fun i j => .int (i ^ j.toNat)) a b
abbrev rInt1 : List V → Hp → VK → Prop := fun xs H Q => (∃ i, xs = [.int i] ∧ Q (.int i) H) ∨ ∃ k, xs = [.bl k] ∧ Q (.int (if k then 1 else 0)) H
abbrev tInt (a : TE) : TE := tCB rInt1 (tCons a tNil)
abbrev tAbs (a : TE) : TE := tCB (fun xs H Q => ∃ i, xs = [.int i] ∧ Q (.int (if i < 0 then -i else i)) H) (tCons a tNil)
abbrev tLen (K : PySem.W.Frag) (a : TE) : TE := tCB (fun xs H Q => ∃ x n, xs = [x] ∧ LenV K x H n ∧ Q (.int n) H) (tCons a tNil)
def tDraw (K : PySem.W.Frag) : TS :=
  tSeq (setB (tPlus (ixB K 4) (tC (.int 1))) 4)
  (tSeq (tIfS (tAnd (tTest (tOp rEq (ixB K 2) (tC (.int 0)))) (tTest (tOp (rI0 fun i j => .bl (decide (i < j))) (ixB K 1) (tLen K (ixB K 0)))))
      (tSeq (tAsg (tOp (rIxL K) (ixB K 0) (ixB K 1)) (gName 2))
      (tSeq (setB (tPlus (ixB K 1) (tC (.int 1))) 1)
        (tIfS (tTest (tOp (rI0 fun i j => .bl (decide (j ≤ i))) (tAbs (tVar 2)) (tPow (tC (.int 10)) (tC (.int 18)))))
          (setB (tAbs (tVar 2)) 2)
          (setB (tMod (tInt (tPlus (tPlus (tTimes (ixB K 3) (tC (.int 48271))) (tTimes (tMod (tInt (tVar 2)) (tC (.int 2147483399))) (tC (.int 773)))) (tC (.int 43)))) (tC (.int 2147483563))) 3))))
      tNext)
  (tSeq (tIfS (tTest (tOp (rI0 fun i j => .bl (decide (j < i))) (ixB K 2) (tC (.int 0))))
      (tSeq (tAsg (tMod (tInt (ixB K 2)) (tVar 1)) (gName 3))
      (tSeq (setB (tDivW (ixB K 2) (tVar 1)) 2)
        (tRet (tVar 3))))
      tNext)
  (tSeq (tAsg (ixB K 3) (gName 4))
  (tSeq (setB (tMod (tInt (tPlus (tPlus (tPlus (tPow (tVar 4) (tC (.int 3))) (tTimes (tVar 4) (tC (.int 27617)))) (tTimes (ixB K 4) (tC (.int 1299721)))) (tC (.int 52363)))) (tC (.int 2147483563))) 3)
    (tRet (tMod (tInt (tPlus (tDivW (ixB K 3) (tC (.int 67))) (tTimes (tMod (tInt (ixB K 3)) (tC (.int 7919))) (tC (.int 53))))) (tVar 1)))))))
/-- a draw below top -/
def s_draw : SpD := sRel (fun ds => ∃ top : Int, ds = [.bag, .int top] ∧ 0 < top ∧ top < 2 ^ 64) (fun ds d => ∃ top i : Int, ds = [.bag, .int top] ∧ d = .int i ∧ 0 ≤ i ∧ i < top)
abbrev bagL (c : Addr) (i r m k : Int) : HO := .lst [.ref c, .int i, .int r, .int m, .int k]
section
variable {K : PySem.W.Frag}
theorem ixB_ok {σ : L2.St} {H : Hp} {Q : VK} {b c : Addr} {i r m k : Int} {j : Int} {v : V} (hσ : σ[0]? = some (some (.ref b))) (hb : H b = some (bagL c i r m k)) (hv : atI [V.ref c, .int i, .int r, .int m, .int k] j = some v) (q : Q v H) : ixB K j σ H Q :=
  ⟨_, hσ, b, _, j, v, rfl, rfl, SqL.of hb, hv, q⟩
theorem setB_ok {σ : L2.St} {H1 : Hp} {De : Ends} {b : Addr} {xs : List V} {v : V} {j : Int} {n : Nat} (hσ : σ[0]? = some (some (.ref b))) (hb : H1 b = some (.lst xs)) (hn : ixN xs.length j = some n) (q : De.nx σ (upd H1 b (.lst (xs.set n v)))) :
    gSub (tVar 0) (tC (.int j)) rSetL v σ H1 De.nx := ⟨_, hσ, b, xs, j, n, rfl, rfl, hb, hn, q⟩
/-- only the bag is written -/
theorem keep_bag {M : Mk} {H : Hp} {b c : Addr} {i r m k i' r' m' k' : Int} {ns : List Int} (hM : M b = 2) (hc : M c = 0) (hb : H b = some (bagL c i r m k)) (hcc : H c = some (.lst (ns.map V.int))) (hi : BagInv i' r' m' k' ns) : Keep M H (upd H b (bagL c i' r' m' k')) := by
  have ncb : c ≠ b := fun e => by subst e; rw [hM] at hc; cases hc
  refine ⟨fun a o hm e => by rw [upd_ne (fun z => hm (by rw [z]; exact hM))]; exact e, fun a c2 hm h => ?_⟩
  by_cases ha : a = b
  · subst ha
    obtain ⟨i2, r2, m2, k2, ns2, h1, h2, h3, h4⟩ := h
    rw [hb] at h1
    simp only [Option.some.injEq, HO.lst.injEq, List.cons.injEq, V.ref.injEq] at h1
    obtain ⟨rfl, _⟩ := h1
    exact ⟨i', r', m', k', ns, upd_same, h2, by rw [upd_ne ncb]; exact hcc, hi⟩
  · exact h.upd (Ne.symm ha) (fun e => by subst e; have := h.zero; rw [hM] at this; cases this)
def tTail (K : PySem.W.Frag) : TS :=
  (tSeq (tIfS (tTest (tOp (rI0 fun i j => .bl (decide (j < i))) (ixB K 2) (tC (.int 0))))
      (tSeq (tAsg (tMod (tInt (ixB K 2)) (tVar 1)) (gName 3))
      (tSeq (setB (tDivW (ixB K 2) (tVar 1)) 2)
        (tRet (tVar 3))))
      tNext)
  (tSeq (tAsg (ixB K 3) (gName 4))
  (tSeq (setB (tMod (tInt (tPlus (tPlus (tPlus (tPow (tVar 4) (tC (.int 3))) (tTimes (tVar 4) (tC (.int 27617)))) (tTimes (ixB K 4) (tC (.int 1299721)))) (tC (.int 52363)))) (tC (.int 2147483563))) 3)
    (tRet (tMod (tInt (tPlus (tDivW (ixB K 3) (tC (.int 67))) (tTimes (tMod (tInt (ixB K 3)) (tC (.int 7919))) (tC (.int 53))))) (tVar 1))))))
theorem top_div {i top : Int} (h0 : 0 < top) (h1 : top < 2 ^ 64) : CDivW i top := wide_div h0 (b := 64) (by omega) (by decide) (by decide)
theorem tail_ok {H : Hp} {b c : Addr} {top i r m k : Int} {ns : List Int} {s2 s3 s4 : Option V} (ht : 0 < top) (ht2 : top < 2 ^ 64) (hi : BagInv i r m k ns) (Q : VK)
    (hQ : ∀ (j i' r' m' k' : Int), BagInv i' r' m' k' ns → 0 ≤ j → j < top → Q (.int j) (upd H b (bagL c i' r' m' k'))) :
    tTail K { nx := fun _ H' => Q .non H', rt := Q } [some (.ref b), some (.int top), s2, s3, s4] (upd H b (bagL c i r m k)) := by
  obtain ⟨i0, r0, m0, m1, k0, l0⟩ := id hi
  refine ixB_ok rfl upd_same rfl ?_
  refine ⟨r, 0, rfl, rfl, _, rfl, ?_⟩
  refine ite2 (fun h => ?_) (fun h => ?_)
  · have hr : 0 < r := of_decide_eq_true h
    refine ixB_ok rfl upd_same rfl ?_
    refine .inl ⟨r, rfl, ?_⟩
    refine ⟨_, rfl, r, top, rfl, rfl, ht, ?_⟩
    refine ixB_ok rfl upd_same rfl ?_
    refine ⟨_, rfl, r, top, rfl, rfl, top_div ht ht2, ?_⟩
    refine setB_ok rfl upd_same rfl ?_
    refine ⟨_, rfl, ?_⟩
    rw [upd_upd]
    exact hQ (r % top) i (r / top) m k ⟨i0, Int.ediv_nonneg r0 (by omega), m0, m1, k0, l0⟩ (Int.emod_nonneg _ (by omega)) (Int.emod_lt_of_pos _ ht)
  · refine ixB_ok rfl upd_same rfl ?_
    -- the mixed number
    refine ⟨_, rfl, ?_⟩
    refine ⟨m, 3, rfl, rfl, ⟨by decide, by decide, by omega⟩, ?_⟩
    refine ⟨_, rfl, m, 27617, rfl, rfl, .inr ⟨by decide, by decide⟩, ?_⟩
    refine ⟨_, _, rfl, rfl, ?_⟩
    refine ixB_ok rfl upd_same rfl ?_
    refine ⟨k, 1299721, rfl, rfl, .inr ⟨by decide, by decide⟩, ?_⟩
    refine ⟨_, _, rfl, rfl, ?_⟩
    refine ⟨_, _, rfl, rfl, ?_⟩
    refine .inl ⟨_, rfl, ?_⟩
    refine ⟨_, 2147483563, rfl, rfl, (by show (0 : Int) < 2147483563; decide), ?_⟩
    refine setB_ok rfl upd_same rfl ?_
    rw [upd_upd]
    show (_ : TS) _ _ (upd H b (bagL c i r ((m ^ (3 : Int).toNat + m * 27617 + k * 1299721 + 52363) % 2147483563) k))
    generalize hm' : (m ^ (3 : Int).toNat + m * 27617 + k * 1299721 + 52363) % 2147483563 = m'
    have a1 : 0 ≤ m' := by rw [← hm']; exact Int.emod_nonneg _ (by decide)
    have a2 : m' < 2147483563 := by rw [← hm']; exact Int.emod_lt_of_pos _ (by decide)
    refine ixB_ok (i := i) (r := r) (m := m') (k := k) (c := c) rfl upd_same rfl ?_
    refine ⟨m', 67, rfl, rfl, top_div (by decide) (by decide), ?_⟩
    refine ixB_ok (i := i) (r := r) (m := m') (k := k) (c := c) rfl upd_same rfl ?_
    refine .inl ⟨m', rfl, ?_⟩
    refine ⟨m', 7919, rfl, rfl, (by show (0 : Int) < 7919; decide), ?_⟩
    refine ⟨_, 53, rfl, rfl, .inr ⟨by decide, by decide⟩, ?_⟩
    refine ⟨_, _, rfl, rfl, ?_⟩
    refine .inl ⟨_, rfl, ?_⟩
    refine ⟨_, rfl, _, top, rfl, rfl, ht, ?_⟩
    exact hQ _ i r m' k ⟨i0, r0, a1, by omega, k0, l0⟩ (Int.emod_nonneg _ (by omega)) (Int.emod_lt_of_pos _ ht)
theorem draw_ok {M : Mk} {H : Hp} {b : Addr} {top : Int} (wf : Wf M H) (hM : M b = 2) (ht : 0 < top) (ht2 : top < 2 ^ 64) (Q : VK) (hQ : ∀ (j : Int) (H' : Hp), Keep M H H' → 0 ≤ j → j < top → Q (.int j) H') :
    tDraw K { nx := fun _ H' => Q .non H', rt := Q } [some (.ref b), some (.int top), none, none, none] H := by
  obtain ⟨c, i, r, m, k, ns, hb, hc, hcc, hi⟩ := wf.b b hM
  have ncb : c ≠ b := fun e => by subst e; rw [hM] at hc; cases hc
  have fin : ∀ (j i' r' m' k' : Int), BagInv i' r' m' k' ns → 0 ≤ j → j < top → Q (.int j) (upd H b (bagL c i' r' m' k')) := fun j i' r' m' k' h0 h1 h2 => hQ j _ (keep_bag hM hc hb hcc h0) h1 h2
  have tail : ∀ (i r m k : Int) (s2 s3 s4 : Option V), BagInv i r m k ns → tTail K { nx := fun _ H' => Q .non H', rt := Q } [some (.ref b), some (.int top), s2, s3, s4] (upd H b (bagL c i r m k)) := fun i r m k s2 s3 s4 h0 => tail_ok ht ht2 h0 Q fin
  obtain ⟨i0, r0, m0, m1, k0, l0⟩ := id hi
  refine ixB_ok rfl hb rfl ?_
  refine ⟨k, 1, rfl, rfl, ?_⟩
  refine setB_ok rfl hb rfl ?_
  have h0 : BagInv i r m (k + 1) ns := ⟨i0, r0, m0, m1, by omega, l0⟩
  have sq : ∀ {o : HO}, SqL K (upd H b o) c (ns.map V.int) := fun {o} => SqL.of (by rw [upd_ne ncb]; exact hcc)
  refine ixB_ok (i := i) (r := r) (m := m) (k := k + 1) (c := c) rfl upd_same rfl ?_
  refine ⟨rfl, _, rfl, ?_⟩
  refine ite2 (fun h2 => ?_) (fun h2 => ?_)
  · refine ixB_ok (i := i) (r := r) (m := m) (k := k + 1) (c := c) rfl upd_same rfl ?_
    refine ixB_ok (i := i) (r := r) (m := m) (k := k + 1) (c := c) rfl upd_same rfl ?_
    refine ⟨.ref c, _, rfl, .inl ⟨_, sq, rfl⟩, ?_⟩
    refine ⟨i, _, rfl, rfl, _, rfl, ?_⟩
    refine ite2 (fun h3 => ?_) (fun h3 => tail i r m (k + 1) _ _ _ h0)
    have hl : i < (ns.length : Int) := by
      have := of_decide_eq_true h3
      rw [List.length_map] at this
      exact this
    obtain ⟨z, hz⟩ : ∃ z, ns[i.toNat]? = some z := ⟨ns[i.toNat]'(by omega), by simp⟩
    refine ixB_ok (i := i) (r := r) (m := m) (k := k + 1) (c := c) rfl upd_same rfl ?_
    refine ixB_ok (i := i) (r := r) (m := m) (k := k + 1) (c := c) rfl upd_same rfl ?_
    refine ⟨c, ns.map V.int, i, .int z, rfl, rfl, sq, ?_, ?_⟩
    · have e : i = ((i.toNat : Nat) : Int) := by omega
      rw [e]
      exact atI_nat (by rw [List.getElem?_map, hz]; rfl)
    refine ixB_ok (i := i) (r := r) (m := m) (k := k + 1) (c := c) rfl upd_same rfl ?_
    refine ⟨i, 1, rfl, rfl, ?_⟩
    refine setB_ok rfl upd_same rfl ?_
    rw [upd_upd]
    refine ⟨_, rfl, z, rfl, ?_⟩
    refine ⟨10, 18, rfl, rfl, ⟨by decide, by decide, by decide⟩, ?_⟩
    refine ⟨_, _, rfl, rfl, _, rfl, ?_⟩
    refine ite2 (fun h4 => ?_) (fun h4 => ?_)
    · refine ⟨_, rfl, z, rfl, ?_⟩
      refine setB_ok rfl upd_same rfl ?_
      rw [upd_upd]
      exact tail (i + 1) (if z < 0 then -z else z) m (k + 1) _ _ _ ⟨by omega, by split <;> omega, m0, m1, by omega, l0⟩
    · refine ixB_ok (i := i + 1) (r := r) (m := m) (k := k + 1) (c := c) rfl upd_same rfl ?_
      refine ⟨m, 48271, rfl, rfl, .inr ⟨by decide, by decide⟩, ?_⟩
      refine ⟨_, rfl, .inl ⟨z, rfl, ?_⟩⟩
      refine ⟨z, 2147483399, rfl, rfl, (by show (0 : Int) < 2147483399; decide), ?_⟩
      refine ⟨_, 773, rfl, rfl, .inr ⟨by decide, by decide⟩, ?_⟩
      refine ⟨_, _, rfl, rfl, ?_⟩
      refine ⟨_, _, rfl, rfl, ?_⟩
      refine .inl ⟨_, rfl, ?_⟩
      refine ⟨_, 2147483563, rfl, rfl, (by show (0 : Int) < 2147483563; decide), ?_⟩
      refine setB_ok rfl upd_same rfl ?_
      rw [upd_upd]
      exact tail (i + 1) r _ (k + 1) _ _ _ ⟨by omega, r0, Int.emod_nonneg _ (by decide), Int.lt_of_lt_of_le (Int.emod_lt_of_pos _ (by decide)) (by decide), by omega, l0⟩
  · exact tail i r m (k + 1) _ _ _ h0
end
end PL

set_option Elab.async false
set_option linter.all false
set_option maxRecDepth 100000
set_option maxHeartbeats 4000000
namespace PL
open PySem PySem.Spec PyProof.Rows L2 RZ

/-- _law_draw, by its body's reading tDraw -/
theorem draw_fn {P : Program} {w : World} {K : PySem.W.Frag} {mg : Str → Option Value} {base : Heap} {x qual : Str} {params : Arguments} {body : List Stmt} {scope : Scope} {kws : List (Str × V)} {f : Addr} {fd : FuncData} {N ps : List Str} {k : Nat}
    (F : FunD K x qual params body scope [] kws f fd) (S : FnScope N ps scope) (hn : ps.length = 2) (hN : N.length = 5)
    (hbody : ∀ (cdv : Value) (A : Around) (outer : List Env) (st : Shared) (H : Hp) (E : XK), Room k (A.deeper (envOfC qual scope st.heap.objs.size f cdv)) → PSs (cxOf (L2.CX P w) P w K mg base N qual scope f cdv A outer st H E) body (tDraw K)) :
    FnOk P w K mg base (L2.CX P w) (k + 1) f fd ps (liftSp K 2 s_draw) := by
  refine F.ok S (fun vs H Q E h => by rw [liftSp_len h, hn]) (fun cdv A outer st H vs Q E hr h => ⟨_, hbody cdv A outer st H E hr, ?_⟩)
  obtain ⟨M, ds, x, wf, r, l, hx, ⟨top, rfl, h0, h1⟩, q⟩ := h
  obtain ⟨v, u, rfl, r1, r2⟩ := reps2 r
  unfold Rep at r1 r2
  obtain ⟨b, rfl, hM⟩ := r1
  subst r2
  have e : L2.start N [V.ref b, V.int top] = [some (.ref b), some (.int top), none, none, none] := by
    unfold L2.start
    rw [hN]
    rfl
  rw [e]
  exact draw_ok wf hM h0 h1 Q fun j H' k' j0 j1 => q (.int j) ⟨top, j, rfl, rfl, j0, j1⟩ _ H' k' rep_int

/-- _law_bag: a new bag -/
def spBag (K : PySem.W.Frag) : Sp := fun vs H Q _ => ∃ (a : Addr) (ns : List Int), vs = [.ref a] ∧ SqL K H a (ns.map V.int) ∧ ns.length ≤ 63 ∧
  ∀ (b c : Addr) (H' : Hp) (m : Int) (ms : List Int), b ≠ c → H' b = some (bagL c 0 0 m 0) → H' c = some (.lst (ms.map V.int)) → BagInv 0 0 m 0 ms → Q (.ref b) H'
def tBag (K : PySem.W.Frag) : TS :=
  tSeq (tAsg (tCB (fun xs H Q => ∃ p ys, xs = [.ref p] ∧ (SqL K H p ys ∨ SqT K H p ys) ∧ ∀ l, H l = none → Q (.ref l) (upd H l (.lst ys))) (tCons (tSl (rSlL K) (tVar 0) tNoPart (tPart (tC (.int 63)))) tNil)) (gName 1))
    (tRet (tLst (tCons (tVar 1) (tCons (tC (.int 0)) (tCons (tC (.int 0)) (tCons (tPlus (tC (.int 12037)) (tTimes (tC (.int 41)) (tLen K (tVar 1)))) (tCons (tC (.int 0)) tNil)))))))
theorem cut_ints (ns : List Int) (lo hi : Option Int) : cutV (ns.map V.int) lo hi = (cutL ns lo hi).map V.int := by
  unfold cutV cutL
  rw [List.length_map, List.map_take, List.map_drop]
theorem bag_fn {P : Program} {w : World} {K : PySem.W.Frag} {mg : Str → Option Value} {base : Heap} {x qual : Str} {params : Arguments} {body : List Stmt} {scope : Scope} {kws : List (Str × V)} {f : Addr} {fd : FuncData} {N ps : List Str} {k : Nat}
    (F : FunD K x qual params body scope [] kws f fd) (S : FnScope N ps scope) (hn : ps.length = 1) (hN : N.length = 2)
    (hbody : ∀ (cdv : Value) (A : Around) (outer : List Env) (st : Shared) (H : Hp) (E : XK), Room k (A.deeper (envOfC qual scope st.heap.objs.size f cdv)) → PSs (cxOf (L2.CX P w) P w K mg base N qual scope f cdv A outer st H E) body (tBag K)) :
    FnOk P w K mg base (L2.CX P w) (k + 1) f fd ps (spBag K) := by
  refine F.ok S (fun vs H Q E h => by obtain ⟨a, ns, rfl, _⟩ := h; rw [hn]; rfl) (fun cdv A outer st H vs Q E hr h => ⟨_, hbody cdv A outer st H E hr, ?_⟩)
  obtain ⟨a, ns, rfl, hs, hl, q⟩ := h
  have e : L2.start N [V.ref a] = [some (.ref a), none] := by
    unfold L2.start
    rw [hN]
    rfl
  rw [e]
  refine ⟨_, rfl, 63, rfl, a, _, rfl, hs, fun p hp => ?_⟩
  refine ⟨p, _, rfl, .inl (SqL.of upd_same), fun c hc => ?_⟩
  have cl : (cutL ns none (some 63)).length ≤ 63 := Nat.le_trans (cut_len _ _ _) hl
  rw [cut_ints]
  generalize cutL ns none (some 63) = ms at cl
  refine ⟨_, rfl, _, rfl, .ref c, (ms.map V.int).length, rfl, .inl ⟨_, SqL.of upd_same, rfl⟩, 41, _, rfl, rfl, .inl ⟨by decide, by decide⟩, 12037, _, rfl, rfl, by show 5 ≤ sizeLine; rw [sizeLine_eq]; decide, fun b hb => ?_⟩
  have ncb : c ≠ b := fun z => by subst z; rw [upd_same] at hb; cases hb
  refine q b c _ _ ms (Ne.symm ncb) upd_same (by rw [upd_ne ncb, upd_same]) ⟨by decide, by decide, ?_, ?_, by decide, cl⟩
  · rw [List.length_map]; omega
  · rw [List.length_map]; omega

/-- the law's end -/
def spLaw (K : PySem.W.Frag) : Sp := fun vs H Q _ => ∃ (a : Addr) (ns : List Int), vs = [.ref a] ∧ SqL K H a (ns.map V.int) ∧ ns.length ≤ 63 ∧ ∀ H', Q (.bl true) H'
def startL (n : Nat) : Gm := .un :: .v .bag :: List.replicate (n - 2) .un
def lawEnd : EndsD := { nx := fun _ => False, rt := fun d => d = .bl true }
theorem law_fn {P : Program} {w : World} {K : PySem.W.Frag} {mg : Str → Option Value} {base : Heap} {x qual : Str} {params : Arguments} {body : List Stmt} {scope : Scope} {kws : List (Str × V)} {f : Addr} {fd : FuncData} {N ps : List Str} {k : Nat} {T : TDS}
    (F : FunD K x qual params body scope [] kws f fd) (S : FnScope N ps scope) (hn : ps.length = 1) (hN : 2 ≤ N.length)
    (hbody : ∀ (cdv : Value) (A : Around) (outer : List Env) (st : Shared) (H : Hp) (E : XK), Room k (A.deeper (envOfC qual scope st.heap.objs.size f cdv)) → PSs (cxOf (L2.CX P w) P w K mg base N qual scope f cdv A outer st H E) body (tSeq (tAsg (tCall (spBag K) [] E0 (tCons (tVar 0) tNil)) (gName 1)) (liftS K E T)))
    (hT : T (startL N.length) noX lawEnd) : FnOk P w K mg base (L2.CX P w) (k + 1) f fd ps (spLaw K) := by
  refine F.ok S (fun vs H Q E h => by obtain ⟨a, ns, rfl, _⟩ := h; rw [hn]; rfl) (fun cdv A outer st H vs Q E hr h => ⟨_, hbody cdv A outer st H E hr, ?_⟩)
  obtain ⟨a, ns, rfl, hs, hl, q⟩ := h
  have e : L2.start N [V.ref a] = some (.ref a) :: none :: List.replicate (N.length - 2) none := by
    unfold L2.start
    obtain ⟨n, hn2⟩ : ∃ n, N.length = n + 2 := ⟨N.length - 2, by omega⟩
    rw [hn2]
    rfl
  rw [e]
  refine ⟨.ref a, rfl, a, ns, rfl, hs, hl, fun b c H' m ms hbc hb hc hi => ?_⟩
  have two : ∀ {y : Addr}, (fun y => if y = b then 2 else 0 : Mk) y ≠ 0 → y = b := fun {y} h => by
    by_cases z : y = b
    · exact z
    · exact absurd (if_neg z) h
  have wf : Wf (fun y => if y = b then 2 else 0) H' := ⟨fun y h => by rw [two h, hb]; simp, fun y h => by
    have z := two (y := y) (by show (if y = b then 2 else 0) ≠ 0; rw [h]; decide)
    subst z
    exact ⟨c, 0, 0, m, 0, ms, hb, if_neg (Ne.symm hbc), hc, hi⟩⟩
  refine ⟨fun y => if y = b then 2 else 0, fun y => if y = b then 2 else 0, H', startL N.length, noX, lawEnd, ⟨wf, wf, fun _ _ => rfl, fun _ h => h, Keep.refl, ?_, fun i s e => ?_, fun i j ds es e => ?_⟩, XOk.none, ⟨fun _ _ _ _ _ h => h.elim, fun d v H2 _ r h => ?_, fun _ _ _ _ _ h => h.elim, fun _ _ _ _ _ h => h.elim⟩, hT⟩
  · unfold startL
    simp
  · unfold startL at e
    match i, e with
    | 0, e => cases e; exact trivial
    | 1, e =>
      cases e
      refine ⟨.ref b, rfl, ?_⟩
      unfold Rep
      exact ⟨b, rfl, if_pos rfl⟩
    | i + 2, e =>
      have e2 : (List.replicate (N.length - 2) Sl.un)[i]? = some s := e
      rw [List.eq_of_mem_replicate (List.mem_of_getElem? e2)]
      exact trivial
  · unfold startL at e
    match i, e with
    | 0, e => cases e
    | 1, e => cases e
    | i + 2, e =>
      have e2 : (List.replicate (N.length - 2) Sl.un)[i]? = some (.o ds) := e
      have z := List.eq_of_mem_replicate (List.mem_of_getElem? e2)
      cases z
  · have h2 : d = .bl true := h
    subst h2
    unfold Rep at r
    subst r
    exact q H2
theorem noCX {P : Program} {w : World} (H : Hp) (s : Shared) (e : Value) (s' : Shared) (h : L2.CX P w [] H s (fun _ _ _ => False) e s') : False := by
  obtain ⟨_, _, _, _, _, _, _, _, _, _, _, _, z⟩ := h
  exact z

/-! ### from the head's facts -/
section
variable {P : Program} {w : World} {K : PySem.W.Frag} {mg : Str → Option Value} {base : Heap} {x : Str} {f : Addr} {fd : FuncData} {ps : List Str} {params : Arguments} {body : List Stmt} {scope : Scope} {kws : List (Str × V)} {k j n : Nat} {s : SpD}
theorem Cal.mono (c : Cal P w K mg base x j n s) (h : j ≤ k) : Cal P w K mg base x k n s := by
  obtain ⟨f, fd, ps, h1, h2, F, b⟩ := c.ex
  exact ⟨f, fd, ps, h1, h2, F.mono h, b⟩
theorem CalK.mono {np : Nat} {ks : List Str} {idx : List Nat} {dds : List PL.D} (c : CalK P w K mg base x j n s np ks idx dds) (h : j ≤ k) : CalK P w K mg base x k n s np ks idx dds := by
  obtain ⟨f, fd, ps, dV, dvs, h1, h2, F, b⟩ := c.ex
  exact ⟨f, fd, ps, dV, dvs, h1, h2, F.mono h, b⟩
theorem CalD.mono {dds : List PL.D} (c : CalD P w K mg base x j n s dds) (h : j ≤ k) : CalD P w K mg base x k n s dds := by
  obtain ⟨f, fd, ps, dV, dvs, h1, h2, F, b⟩ := c.ex
  exact ⟨f, fd, ps, dV, dvs, h1, h2, F.mono h, b⟩
/-- another promise that asks more and tells less -/
theorem Cal.imp {s' : SpD} (c : Cal P w K mg base x k n s) (h : ∀ ds x Q, s' ds x Q → s ds x Q) : Cal P w K mg base x k n s' := by
  obtain ⟨f, fd, ps, h1, h2, F, b⟩ := c.ex
  exact ⟨f, fd, ps, h1, h2, F.imp fun vs H Q E ⟨M, ds, x, wf, r, l, hx, q⟩ => ⟨M, ds, x, wf, r, l, hx, h _ _ _ q⟩, b⟩
end

/-! ### the law's first row -/
structure CalBag (P : Program) (w : World) (K : PySem.W.Frag) (mg : Str → Option Value) (base : Heap) (x : Str) (k : Nat) : Prop where
  ex : ∃ (f : Addr) (fd : FuncData) (ps : List Str), mg x = some (.ref f) ∧ PySem.W.keepIn K (.ref f) = true ∧ FnOk P w K mg base (L2.CX P w) k f fd ps (spBag K) ∧ Binds K fd ps []
theorem pe_bag {X : Cx} {k : Nat} {x : Str} {p pos : Pos} {e : Expr} {te : TE} (c : CalBag X.prog X.w X.K X.mg X.base x k) (hr : Room k X.A) (hg : Gl X x) (he : PE X e te) (hdb : (x == ("__debug__" : Str)) = false := by decide)
    (hs : starEach (e :: []) X.env = (false, eval e X.env) :: starEach [] X.env := by rfl) : PE X (.Call (.Name x p) [e] [] pos) (tCall (spBag X.K) [] E0 (tCons te tNil)) := by
  obtain ⟨f, fd, ps, hm, hk, F, hb⟩ := c.ex
  exact pe_call F hr hg hm hk hb .nil passL (pa_cons he pa_nil hs) hdb hs rfl
theorem CalBag.mono {P : Program} {w : World} {K : PySem.W.Frag} {mg : Str → Option Value} {base : Heap} {x : Str} {j k : Nat} (c : CalBag P w K mg base x j) (h : j ≤ k) : CalBag P w K mg base x k := by
  obtain ⟨f, fd, ps, h1, h2, F, b⟩ := c.ex
  exact ⟨f, fd, ps, h1, h2, F.mono h, b⟩

/-! ### the head's facts, with one more look -/
open He
def obsP (fa : List Fa) (fn : List DefD) (ex : PySem.W.Frag → Bool) (K : PySem.W.Frag) : AlD := (((fa.all fun f => f.ok K) && fn.all fun d => d.ok K) && ex K, fn.map fun d => fnW K d.at_)
def SaysP (fa : List Fa) (fn : List DefD) (ex : PySem.W.Frag → Bool) (K : PySem.W.Frag) : Prop := obsP fa fn ex K = valD fn
def obsPG (n : Nat) (fa : List Fa) (fn : List DefD) (ex : PySem.W.Frag → Bool) (g : Addr → Option Obj) : AlD := obsP fa fn ex (frG g (asD g n))
def hookP (n : Nat) (fa : List Fa) (fn : List DefD) (ex : PySem.W.Frag → Bool) : PySem.W.Hook where
  α := AlD
  obs := fun s => obsPG n fa fn ex s.heap.get?
  val := fun _ => valD fn
  says := fun _ h => ∃ K : PySem.W.Frag, K.In h ∧ SaysP fa fn ex K
  of := fun _ _ e => ⟨_, frG_in, e⟩
  keeps := fun _ _ _ ⟨K, hK, c⟩ k => ⟨K, PySem.W.Frag.In.keeps hK k, c⟩
theorem obsPG_eq {n : Nat} {fa : List Fa} {fn : List DefD} {ex : PySem.W.Frag → Bool} {g : Addr → Option Obj} {s : Shared} (h : ∀ a, g a = s.heap.get? a) : obsPG n fa fn ex g = (hookP n fa fn ex).obs s := by
  have e : g = s.heap.get? := funext h
  rw [e] <;> rfl
section
variable {fa : List Fa} {fn : List DefD} {ex : PySem.W.Frag → Bool} {K : PySem.W.Frag}
theorem SaysP.more (c : SaysP fa fn ex K) : ex K = true := (ba (show (((fa.all fun f => f.ok K) && fn.all fun d => d.ok K) && ex K) = true from congrArg (fun z : AlD => z.1) c)).2
theorem SaysP.d (c : SaysP fa fn ex K) : SaysD fa fn K := by
  have h1 := (ba (show (((fa.all fun f => f.ok K) && fn.all fun d => d.ok K) && ex K) = true from congrArg (fun z : AlD => z.1) c)).1
  have h2 : fn.map (fun d => fnW K d.at_) = fn.map DefD.val := congrArg (fun z : AlD => z.2) c
  unfold SaysD obsD valD
  rw [h1, h2]
end
/-- a constant pair of whole numbers -/
theorem con_tup {K : PySem.W.Frag} {mg : Str → Option Value} {h : Heap} (X : K.In h) (G : h.Ns mainGlobals mg) {x : Str} {ns : List Int} (c : (Fa.glo x).ok K = true) (t : tupB K x (ns.map Dv.int) = true) : PL.Con K mg x (.tup (ns.map D.int)) := by
  refine ⟨.ref (ga K x), _, glo_ok X G c, rfl, fun M H => ?_⟩
  have e : (ns.map Dv.int).map (Dv.v K) = ns.map V.int := by rw [List.map_map]; rfl
  have sq : ∀ H, SqT K H (ga K x) (ns.map V.int) := fun H => by rw [← e]; exact tupB_ok t H
  have z : ns.length ≤ sizeLine ∧ ∃ o, K.lookup (ga K x) = some o ∧ o.cls = .type "tuple" := by
    rcases sq (fun _ => none) with f | ⟨o, its, n, l, c1, c2, hz, rv⟩
    · rcases f with f | ⟨o, f⟩ <;> cases f
    · refine ⟨?_, o, l, c1⟩
      have := rv.length
      simp only [List.length_map, Array.length_toList] at this
      omega
  unfold Rep
  exact ⟨_, _, rfl, .inr ⟨z.2, sq⟩, by rw [List.length_map]; exact z.1, Reps.of_ints⟩
end PL

set_option Elab.async false
set_option linter.all false
set_option maxRecDepth 100000
set_option maxHeartbeats 4000000
/-! Joining: a law's end with an error clause that knows the world. -/
namespace PL
open PySem PySem.Spec PyProof.Rows L2
theorem vals_nil {ds : List Value} (h : Vals [] ds) : ds = [] := by
  cases h
  rfl
theorem fn_none {P : Program} {w : World} {K : PySem.W.Frag} {mg : Str → Option Value} {base : Heap} {CX : CXT} {k n : Nat} {f : Addr} {fd : FuncData} {ps : List Str} {s : SpD} (hs : ∀ ds x Q, s ds x Q → False) : FnOk P w K mg base CX k f fd ps (liftSp K n s) :=
  ⟨fun vs H Q E h => by
    obtain ⟨_, _, _, _, _, _, _, h⟩ := h
    exact (hs _ _ _ h).elim, fun A outer s H args us vs Q E hr he hb hv h => by
    obtain ⟨_, _, _, _, _, _, _, h⟩ := h
    exact (hs _ _ _ h).elim⟩
theorem law_end {L : PySem.W.OpenLaw} {N lv : Nat} {view : Program} {loose : List Str} {XQ : (Str → Option Value) → Heap → Prop} {YQ : World → Heap → Prop} {D : DefRec} {C : World → CXT} {nm : Str}
    (most : L.most = some N) (small : N ≤ sizeLine) (plain : D.params.defaults = []) (room : Room lv callerA)
    (all : ∀ (w : World) (mg : Str → Option Value) (at_ : Addr) (hp : Heap), YQ w hp → hp.Ns mainGlobals mg → mg D.name = some (.ref at_) →
      ∃ (K : PySem.W.Frag) (fd : FuncData) (sp : Sp), (K.In hp ∧ ∀ (st : Shared) (arg : Value), BindsTo st fd ⟨[arg], []⟩ [(nm, arg)]) ∧
        (∀ (H : Hp) (a : Addr) (ns : List Int), ns.length ≤ N → SqL K H a (ns.map V.int) → sp [.ref a] H (fun v _ => v = .bl true) fun _ _ _ => False) ∧
        ∀ bs : Heap, K.In bs → bs.Ns mainGlobals mg → FnOk L.prog w K mg bs (C w) lv at_ fd [nm] sp)
    (none_ : ∀ (w : World) (H : Hp) (st : Shared) (e : Value) (st' : Shared), C w [] H st (fun _ _ _ => False) e st' → False) :
    PySem.W.WalkO view loose XQ YQ L.row.toRowW D [] (fun g us => PySem.call g us) := by
  refine Att.attach_call most plain fun w _ st mg mb at_ o pm cd doc a us ns T y ho hd hcd hm hobj hi hlen hg => ?_
  obtain ⟨K, fd, sp, ⟨kin, binds⟩, says, ok⟩ := all w mg at_ _ y T.T.g hm
  refine law_call kin T.T.g T.T.b T.T.builtins T.T.nolimit hg hobj hi (Nat.le_trans hlen small) room ok binds ?_ ?_
  · exact fun H _ sq => says H a ns hlen sq
  · exact fun H e st' => none_ w H st e st'
end PL

set_option Elab.async false
set_option linter.all false
set_option maxRecDepth 100000
set_option maxHeartbeats 4000000
/-! Fractions as rational numbers: the pair of whole numbers that stands for one, its size. -/
namespace Fr
open PySem PyProof.Rows L2 PL

def fr (q : Rat) : PL.D := .tup [.int q.num, .int (q.den : Int)]
def frs (qs : List Rat) : List PL.D := qs.map fr
/-- numerator and denominator have at most B bits -/
def Bd (B : Nat) (q : Rat) : Prop := q.num.natAbs < 2 ^ B ∧ q.den < 2 ^ B
theorem Bd.mono {B C : Nat} {q : Rat} (h : Bd B q) (l : B ≤ C) : Bd C q := ⟨Nat.lt_of_lt_of_le h.1 (Nat.pow_le_pow_right (by decide) l), Nat.lt_of_lt_of_le h.2 (Nat.pow_le_pow_right (by decide) l)⟩
theorem den_pos (q : Rat) : (0 : Int) < (q.den : Int) := by have := q.den_pos; omega
theorem den_ne (q : Rat) : (q.den : Rat) ≠ 0 := by
  have := q.den_pos
  intro h
  have h2 : ((q.den : Int) : Rat) = 0 := by rw [Rat.intCast_natCast]; exact h
  rw [Rat.intCast_eq_zero_iff] at h2
  omega
theorem num_den (q : Rat) : (q.num : Rat) / (q.den : Rat) = q := by
  have := Rat.mkRat_self q
  rw [Rat.mkRat_eq_div] at this
  exact this
theorem num_eq (q : Rat) : (q.num : Rat) = q * (q.den : Rat) := by
  have h := num_den q
  have h2 := den_ne q
  grind
theorem cast_ne {d : Int} (h : d ≠ 0) : (d : Rat) ≠ 0 := fun e => h (Rat.intCast_eq_zero_iff.mp e)
/-- a quotient of whole numbers as the pair in lowest terms -/
theorem divInt_pos {n d : Int} (h : 0 < d) : ((n : Rat) / (d : Rat)).num = n / (Int.gcd n d : Int) ∧ ((((n : Rat) / (d : Rat)).den : Nat) : Int) = d / (Int.gcd n d : Int) := by
  rw [← Rat.divInt_eq_div, Rat.num_divInt, Rat.den_divInt, if_neg (by omega), Int.gcd_comm d n, Int.sign_eq_one_of_pos h, Int.one_mul]
  refine ⟨rfl, ?_⟩
  rw [Int.natCast_ediv]
  congr 1
  omega
theorem fr_inj {p q : Rat} (h : fr p = fr q) : p = q := by
  unfold fr at h
  simp only [D.tup.injEq, List.cons.injEq, D.int.injEq, and_true] at h
  exact Rat.ext h.1 (by omega)
theorem gcd_pos {n d : Int} (h : d ≠ 0) : 0 < (Int.gcd n d : Int) := by
  have : Int.gcd n d ≠ 0 := fun e => h (Int.gcd_eq_zero_iff.mp e).2
  omega
theorem gcd_le {n d : Int} (h : d ≠ 0) : Int.gcd n d ≤ d.natAbs := Nat.le_of_dvd (by omega) (Int.gcd_dvd_natAbs_right n d)
theorem bd_div {n d : Int} {A B : Nat} (h : 0 < d) (hn : n.natAbs < 2 ^ A) (hd : d.natAbs < 2 ^ B) : ((n : Rat) / (d : Rat)).num.natAbs < 2 ^ A ∧ ((n : Rat) / (d : Rat)).den < 2 ^ B := by
  obtain ⟨h1, h2⟩ := divInt_pos (n := n) h
  have g := gcd_pos (n := n) (d := d) (by omega)
  constructor
  · rw [h1]
    refine Nat.lt_of_le_of_lt ?_ hn
    rw [Int.natAbs_ediv_of_dvd (Int.gcd_dvd_left n d)]
    exact Nat.div_le_self _ _
  · have : ((n : Rat) / (d : Rat)).den ≤ d.natAbs := by
      have e : (((n : Rat) / (d : Rat)).den : Int) ≤ d := by
        rw [h2]
        exact Int.ediv_le_self _ (by omega)
      omega
    omega
theorem pow_mul_lt {a b A B : Nat} (ha : a < 2 ^ A) (hb : b < 2 ^ B) : a * b < 2 ^ (A + B) := by
  rw [Nat.pow_add]
  exact Nat.mul_lt_mul'' ha hb
theorem add_eq (p q : Rat) : p + q = ((p.num * q.den + q.num * p.den : Int) : Rat) / ((p.den * q.den : Int) : Rat) := by
  have hp := num_eq p
  have hq := num_eq q
  have dp := den_ne p
  have dq := den_ne q
  rw [Rat.intCast_add, Rat.intCast_mul, Rat.intCast_mul, Rat.intCast_mul, Rat.intCast_natCast, Rat.intCast_natCast]
  grind
theorem mul_eq (p q : Rat) : p * q = ((p.num * q.num : Int) : Rat) / ((p.den * q.den : Int) : Rat) := by
  have hp := num_eq p
  have hq := num_eq q
  have dp := den_ne p
  have dq := den_ne q
  rw [Rat.intCast_mul, Rat.intCast_mul, Rat.intCast_natCast, Rat.intCast_natCast]
  grind
theorem natAbs_lt_add {a b : Int} {A : Nat} (ha : a.natAbs < 2 ^ A) (hb : b.natAbs < 2 ^ A) : (a + b).natAbs < 2 ^ (A + 1) := by
  rw [Nat.pow_succ]; omega
theorem Bd.add {A B : Nat} {p q : Rat} (hp : Bd A p) (hq : Bd B q) : Bd (A + B + 1) (p + q) := by
  rw [add_eq]
  have e1 : (p.num * q.den).natAbs < 2 ^ (A + B) := by rw [Int.natAbs_mul]; exact pow_mul_lt hp.1 hq.2
  have e2 : (q.num * p.den).natAbs < 2 ^ (A + B) := by rw [Int.natAbs_mul, Nat.add_comm]; exact pow_mul_lt hq.1 hp.2
  have e3 : ((p.den : Int) * q.den).natAbs < 2 ^ (A + B) := by rw [Int.natAbs_mul]; exact pow_mul_lt hp.2 hq.2
  have z := bd_div (Int.mul_pos (den_pos p) (den_pos q)) (natAbs_lt_add e1 e2) e3
  exact ⟨z.1, Nat.lt_of_lt_of_le z.2 (Nat.pow_le_pow_right (by decide) (by omega))⟩
theorem Bd.mul {A B : Nat} {p q : Rat} (hp : Bd A p) (hq : Bd B q) : Bd (A + B) (p * q) := by
  rw [mul_eq]
  have e1 : (p.num * q.num).natAbs < 2 ^ (A + B) := by rw [Int.natAbs_mul]; exact pow_mul_lt hp.1 hq.1
  have e3 : ((p.den : Int) * q.den).natAbs < 2 ^ (A + B) := by rw [Int.natAbs_mul]; exact pow_mul_lt hp.2 hq.2
  exact bd_div (Int.mul_pos (den_pos p) (den_pos q)) e1 e3
theorem Bd.neg {A : Nat} {p : Rat} (hp : Bd A p) : Bd A (-p) := ⟨by rw [Rat.neg_num, Int.natAbs_neg]; exact hp.1, by rw [Rat.neg_den]; exact hp.2⟩
theorem Bd.zero : Bd 1 0 := ⟨by decide, by decide⟩
theorem Bd.one : Bd 1 1 := ⟨by decide, by decide⟩
theorem fr_zero : fr 0 = .tup [.int 0, .int 1] := rfl
theorem fr_one : fr 1 = .tup [.int 1, .int 1] := rfl
theorem frs_len (qs : List Rat) : (frs qs).length = qs.length := by unfold frs; rw [List.length_map]
theorem frs_nil : frs [] = [] := rfl
theorem frs_cons (q : Rat) (qs : List Rat) : frs (q :: qs) = fr q :: frs qs := rfl
/-! ### sizes of whole numbers for the machine -/
theorem mulx {i j : Int} {a b : Nat} (ha : i.natAbs < 2 ^ a) (hb : j.natAbs < 2 ^ b) (h : a + b ≤ 134217728) : CMulX i j := mulx_ok ha hb h
theorem mul_lt {i j : Int} {a b : Nat} (ha : i.natAbs < 2 ^ a) (hb : j.natAbs < 2 ^ b) : (i * j).natAbs < 2 ^ (a + b) := by rw [Int.natAbs_mul]; exact pow_mul_lt ha hb
theorem lt_mono {i : Int} {a b : Nat} (h : i.natAbs < 2 ^ a) (l : a ≤ b) : i.natAbs < 2 ^ b := Nat.lt_of_lt_of_le h (Nat.pow_le_pow_right (by decide) l)
theorem divw {i j : Int} {b : Nat} (h : 0 < j) (hb : j.natAbs < 2 ^ b) (h9 : b ≤ 8999) : CDivW i j ∨ CDivN i j := .inl (wide_div h (b := b + 1) (Nat.lt_of_lt_of_le hb (Nat.pow_le_pow_right (by decide) (Nat.le_succ _))) (by omega) (by omega))
theorem fdiv_pos {i j : Int} (h : 0 < j) : i.fdiv j = i / j := Int.fdiv_eq_ediv_of_nonneg i (by omega)
theorem fmod_pos {i j : Int} (h : 0 < j) : i.fmod j = i % j := Int.fmod_eq_emod_of_nonneg i (by omega)
end Fr

set_option Elab.async false
set_option linter.all false
set_option maxRecDepth 100000
set_option maxHeartbeats 4000000
/-! Plain laws for the readings: loops, comprehensions, items. -/
namespace PL
open PySem PySem.Spec PyProof.Rows L2 RZ

theorem atI_0 {α : Type} {x : α} {xs : List α} : atI (x :: xs) 0 = some x := L2.atI_nat (j := 0) rfl
theorem atI_1 {α : Type} {x y : α} {xs : List α} : atI (x :: y :: xs) 1 = some y := L2.atI_nat (j := 1) rfl
theorem atI_of {α : Type} {xs : List α} {i : Int} {d : α} (h : 0 ≤ i) (e : xs[i.toNat]? = some d) : atI xs i = some d := by
  have : i = (i.toNat : Int) := by omega
  rw [this]
  exact L2.atI_nat e
theorem bind_nm {i : Nat} {d : PL.D} : (Pat.nm i).bind d = some [(i, d)] := by unfold Pat.bind; rfl
theorem bind_tup {ps : List Pat} {ds : List PL.D} : (Pat.tup ps).bind (.tup ds) = PL.bindAll ps ds := by rw [Pat.bind]
theorem bindA_nil : PL.bindAll [] [] = some [] := by rw [PL.bindAll]
theorem bindA_one {i : Nat} {d : PL.D} : PL.bindAll [.nm i] [d] = some [(i, d)] := by rw [PL.bindAll, bind_nm, bindA_nil]; rfl
theorem bindA_two {i j : Nat} {d e : PL.D} : PL.bindAll [.nm i, .nm j] [d, e] = some [(i, d), (j, e)] := by rw [PL.bindAll, bind_nm, bindA_one]; rfl
theorem bindA_three {i j k : Nat} {d e f : PL.D} : PL.bindAll [.nm i, .nm j, .nm k] [d, e, f] = some [(i, d), (j, e), (k, f)] := by rw [PL.bindAll, bind_nm, bindA_two]; rfl
inductive All2 {α β : Type} (R : α → β → Prop) : List α → List β → Prop
  | nil : All2 R [] []
  | cons {a b as bs} : R a b → All2 R as bs → All2 R (a :: as) (b :: bs)
/-- a comprehension over all items: each item d becomes an e with R d e -/
theorem comp_all {R : PL.D → PL.D → Prop} {p : Pat} {te : TD} {Gw : Gm} {x : XP} : ∀ {ds acc : List PL.D} {Q : List PL.D → Prop},
    (∀ d ∈ ds, ∃ asg, p.bind d = some asg ∧ ∀ Q : PL.D → Prop, (∀ e, R d e → Q e) → te (setAllD Gw asg) x Q) →
    (∀ es, All2 R ds es → Q (acc ++ es)) → compD p tAll te Gw x ds acc Q
  | [], acc, Q, h, q => by
    have := q [] .nil
    rw [List.append_nil] at this
    exact this
  | d :: r, acc, Q, h, q => by
    obtain ⟨asg, e, t⟩ := h d (List.mem_cons_self ..)
    refine ⟨asg, e, fun _ => t _ fun y ry => ?_, fun e => by cases e⟩
    refine comp_all (fun d m => h d (List.mem_cons_of_mem _ m)) fun es f => ?_
    have := q (y :: es) (.cons ry f)
    rw [List.append_assoc]
    exact this
/-- .. with a function of the item -/
theorem comp_map {g : PL.D → PL.D} {p : Pat} {te : TD} {Gw : Gm} {x : XP} {ds acc : List PL.D} {Q : List PL.D → Prop}
    (h : ∀ d ∈ ds, ∃ asg, p.bind d = some asg ∧ ∀ Q : PL.D → Prop, Q (g d) → te (setAllD Gw asg) x Q)
    (q : Q (acc ++ ds.map g)) : compD p tAll te Gw x ds acc Q := by
  refine comp_all (R := fun d e => e = g d) (fun d m => ?_) fun es f => ?_
  · obtain ⟨asg, e, t⟩ := h d m
    exact ⟨asg, e, fun Q i => t Q (i _ rfl)⟩
  · have : es = ds.map g := by
      clear h q
      induction f with
      | nil => rfl
      | cons a _ ih => rw [a, ih]; rfl
    rw [this]; exact q
/-- .. over the data of a list -/
theorem comp_list {α : Type} {f g : α → PL.D} {p : Pat} {te : TD} {Gw : Gm} {x : XP} : ∀ {xs : List α} {acc : List PL.D} {Q : List PL.D → Prop},
    (∀ a ∈ xs, ∃ asg, p.bind (f a) = some asg ∧ ∀ Q : PL.D → Prop, Q (g a) → te (setAllD Gw asg) x Q) →
    Q (acc ++ xs.map g) → compD p tAll te Gw x (xs.map f) acc Q
  | [], acc, Q, h, q => by
    rw [List.map_nil, List.append_nil] at q
    exact q
  | a :: r, acc, Q, h, q => by
    obtain ⟨asg, e, t⟩ := h a (List.mem_cons_self ..)
    rw [List.map_cons]
    refine ⟨asg, e, fun _ => t _ ?_, fun e => by cases e⟩
    refine comp_list (fun d m => h d (List.mem_cons_of_mem _ m)) ?_
    rw [List.append_assoc]
    exact q
/-- .. of those items that a test lets pass -/
theorem comp_filter {α : Type} {f g : α → PL.D} {c : α → Bool} {p : Pat} {tt : TDT} {te : TD} {Gw : Gm} {x : XP} : ∀ {xs : List α} {acc : List PL.D} {Q : List PL.D → Prop},
    (∀ a ∈ xs, ∃ asg, p.bind (f a) = some asg ∧ (∀ Q : Bool → Prop, Q (c a) → tt (setAllD Gw asg) x Q) ∧ ∀ Q : PL.D → Prop, Q (g a) → te (setAllD Gw asg) x Q) →
    Q (acc ++ (xs.filter c).map g) → compD p tt te Gw x (xs.map f) acc Q
  | [], acc, Q, h, q => by
    rw [List.filter_nil, List.map_nil, List.append_nil] at q
    exact q
  | a :: r, acc, Q, h, q => by
    obtain ⟨asg, e, t, t2⟩ := h a (List.mem_cons_self ..)
    rw [List.map_cons]
    refine ⟨asg, e, t _ ⟨fun hc => t2 _ (comp_filter (fun d m => h d (List.mem_cons_of_mem _ m)) ?_), fun hc => comp_filter (fun d m => h d (List.mem_cons_of_mem _ m)) ?_⟩⟩
    · rw [List.filter_cons_of_pos hc] at q
      rw [List.append_assoc]
      exact q
    · rw [List.filter_cons_of_neg (by simp [hc])] at q
      exact q
/-- .. each item becomes one with R -/
theorem comp_rel {α β : Type} {f : α → PL.D} {h : β → PL.D} {R : α → β → Prop} {p : Pat} {te : TD} {Gw : Gm} {x : XP} : ∀ {xs : List α} {acc : List PL.D} {Q : List PL.D → Prop},
    (∀ a ∈ xs, ∃ asg, p.bind (f a) = some asg ∧ ∀ Q : PL.D → Prop, (∀ b, R a b → Q (h b)) → te (setAllD Gw asg) x Q) →
    (∀ ys, All2 R xs ys → Q (acc ++ ys.map h)) → compD p tAll te Gw x (xs.map f) acc Q
  | [], acc, Q, hh, q => by
    have := q [] .nil
    rw [List.map_nil, List.append_nil] at this
    exact this
  | a :: r, acc, Q, hh, q => by
    obtain ⟨asg, e, t⟩ := hh a (List.mem_cons_self ..)
    rw [List.map_cons]
    refine ⟨asg, e, fun _ => t _ fun b rb => ?_, fun e => by cases e⟩
    refine comp_rel (fun d m => hh d (List.mem_cons_of_mem _ m)) fun ys ry => ?_
    have := q (b :: ys) (.cons rb ry)
    rw [List.append_assoc]
    exact this
theorem All2.length {α β : Type} {R : α → β → Prop} : ∀ {xs : List α} {ys : List β}, All2 R xs ys → xs.length = ys.length
  | _, _, .nil => rfl
  | _, _, .cons _ h => by rw [List.length_cons, List.length_cons, h.length]
theorem All2.mem {α β : Type} {R : α → β → Prop} : ∀ {xs : List α} {ys : List β}, All2 R xs ys → ∀ y ∈ ys, ∃ x ∈ xs, R x y
  | _, _, .cons r h, y, m => by
    rcases List.mem_cons.mp m with rfl | m
    · exact ⟨_, List.mem_cons_self .., r⟩
    · obtain ⟨x, mx, rx⟩ := h.mem y m
      exact ⟨x, List.mem_cons_of_mem _ mx, rx⟩
theorem All2.get {α β : Type} {R : α → β → Prop} : ∀ {xs : List α} {ys : List β}, All2 R xs ys → ∀ {i : Nat} {x : α} {y : β}, xs[i]? = some x → ys[i]? = some y → R x y
  | _, _, .cons r h, 0, x, y, hx, hy => by
    simp at hx hy
    subst hx hy
    exact r
  | _, _, .cons r h, i + 1, x, y, hx, hy => by
    simp only [List.getElem?_cons_succ] at hx hy
    exact h.get hx hy
/-- .. over whole numbers from 0 on -/
theorem loop_inv {α : Type} {f : α → PL.D} {I : Nat → Gm → Prop} {p : Pat} {b : TDS} {x : XP} {xs : List α} {E : EndsD} {G : Gm} (h0 : I 0 G)
    (hs : ∀ i a, xs[i]? = some a → ∀ G', I i G' → ∃ asg, p.bind (f a) = some asg ∧ ∀ E' : EndsD, (∀ G2, I (i + 1) G2 → E'.nx G2) → (∀ G2, I (i + 1) G2 → E'.ct G2) → E'.rt = E.rt → E'.bk = E.nx → b (setAllD G' asg) x E')
    (he : ∀ G', I xs.length G' → E.nx G') : loopD p b x (xs.map f) G E := by
  suffices H : ∀ (n : Nat) (G : Gm), n ≤ xs.length → I n G → loopD p b x ((xs.drop n).map f) G E from by simpa using H 0 G (Nat.zero_le _) h0
  intro n
  induction k : xs.length - n generalizing n with
  | zero =>
    intro G l i
    have : n = xs.length := by omega
    subst this
    rw [List.drop_length]
    exact he G i
  | succ k ih =>
    intro G l i
    have hn : n < xs.length := by omega
    rw [List.drop_eq_getElem_cons hn, List.map_cons]
    obtain ⟨asg, e, t⟩ := hs n xs[n] (List.getElem?_eq_getElem hn) G i
    exact ⟨asg, e, t _ (fun G2 i2 => ih (n + 1) (by omega) G2 (by omega) i2) (fun G2 i2 => ih (n + 1) (by omega) G2 (by omega) i2) rfl rfl⟩
/-! operations at known data -/
section
variable {i j : Int} {a b : Bool} {z w : Str} {xs ys : List PL.D} {P : PL.D → Prop}
theorem ix_tup : oIx (.tup xs) (.int i) P = ∃ d, atI xs i = some d ∧ P d := rfl
theorem ix_lst : oIx (.lst xs) (.int i) P = ∃ d, atI xs i = some d ∧ P d := rfl
theorem add_int : oAdd (.int i) (.int j) P = P (.int (i + j)) := rfl
theorem add_lst : oAdd (.lst xs) (.lst ys) P = (xs.length + ys.length ≤ sizeLine ∧ P (.lst (xs ++ ys))) := rfl
theorem add_tup : oAdd (.tup xs) (.tup ys) P = (xs.length + ys.length ≤ sizeLine ∧ P (.tup (xs ++ ys))) := rfl
theorem mul_int : oMulA (.int i) (.int j) P = (CMulX i j ∧ P (.int (i * j))) := rfl
theorem mul_lst : oMulA (.lst xs) (.int j) P = (-(2 ^ 63) ≤ j ∧ j < 2 ^ 63 ∧ xs.length * j.toNat ≤ sizeLine ∧ P (.lst (List.replicate j.toNat xs).flatten)) := rfl
theorem oI_int {C : Int → Int → Prop} {g : Int → Int → PL.D} : oI C g (.int i) (.int j) P = (C i j ∧ P (g i j)) := rfl
theorem oI0_int {g : Int → Int → PL.D} : oI0 g (.int i) (.int j) P = P (g i j) := rfl
theorem uI_int {g : Int → PL.D} : uI g (.int i) P = P (g i) := rfl
theorem eq_int : oEq (.int i) (.int j) P = P (.bl (decide (i = j))) := rfl
theorem eq_bl : oEq (.bl a) (.bl b) P = P (.bl (decide (a = b))) := rfl
theorem eq_str : oEq (.str z) (.str w) P = P (.bl (decide (z = w))) := rfl
theorem ne_int : oNe (.int i) (.int j) P = P (.bl (!decide (i = j))) := rfl
theorem ne_bl : oNe (.bl a) (.bl b) P = P (.bl (!decide (a = b))) := rfl
theorem ne_str : oNe (.str z) (.str w) P = P (.bl (!decide (z = w))) := rfl
end
/-- the rest of a block stays folded -/
theorem seq_gen {t u : TDS} {G : Gm} {x : XP} {E : EndsD} (h : ∀ U : TDS, U = u → t G x { E with nx := fun G' => U G' x E }) : sSeq t u G x E := h u rfl
theorem startD_pad {n : Nat} {ds : List PL.D} : startD n ds = ds.map Sl.v ++ List.replicate (n - ds.length) .un := rfl
end PL

set_option Elab.async false
set_option linter.all false
set_option maxRecDepth 100000
set_option maxHeartbeats 4000000
/-! isinstance of plain data. -/
namespace PL
open PySem PySem.Spec PyProof.Rows L2 RZ
theorem isi1 {x : PL.D} {t n : String} {r : Bool} {P : PL.D → Prop} (h1 : tyName x = some t) (h2 : kitB t n = some r) : bIsi [x, .ty n] P = P (.bl r) := by
  unfold bIsi isOne
  simp only [h1, Option.bind_some, h2, Option.some.injEq, exists_eq_left']
theorem isi2 {x : PL.D} {t m n : String} {r q : Bool} {P : PL.D → Prop} (h1 : tyName x = some t) (h2 : kitB t m = some r) (h3 : kitB t n = some q) : bIsi [x, .tup [.ty m, .ty n]] P = P (.bl (r || (q || false))) := by
  unfold bIsi isAny isAny isAny isOne
  simp only [h1, Option.bind_some, h2, h3, Option.some.injEq, exists_eq_left', Option.isSome_some, true_and]
theorem isi_non_list {P : PL.D → Prop} : bIsi [.non, .ty "list"] P = P (.bl false) := isi1 (t := "NoneType") rfl (by decide +kernel)
theorem isi_non_tuple {P : PL.D → Prop} : bIsi [.non, .ty "tuple"] P = P (.bl false) := isi1 (t := "NoneType") rfl (by decide +kernel)
theorem isi_non_bool {P : PL.D → Prop} : bIsi [.non, .ty "bool"] P = P (.bl false) := isi1 (t := "NoneType") rfl (by decide +kernel)
theorem isi_non_int {P : PL.D → Prop} : bIsi [.non, .ty "int"] P = P (.bl false) := isi1 (t := "NoneType") rfl (by decide +kernel)
theorem isi_non_str {P : PL.D → Prop} : bIsi [.non, .ty "str"] P = P (.bl false) := isi1 (t := "NoneType") rfl (by decide +kernel)
theorem isi_non_seq {P : PL.D → Prop} : bIsi [.non, .tup [.ty "list", .ty "tuple"]] P = P (.bl false) := isi2 (t := "NoneType") (r := false) (q := false) rfl (by decide +kernel) (by decide +kernel)
theorem isi_bl_list {b : Bool} {P : PL.D → Prop} : bIsi [(.bl b), .ty "list"] P = P (.bl false) := isi1 (t := "bool") rfl (by decide +kernel)
theorem isi_bl_tuple {b : Bool} {P : PL.D → Prop} : bIsi [(.bl b), .ty "tuple"] P = P (.bl false) := isi1 (t := "bool") rfl (by decide +kernel)
theorem isi_bl_bool {b : Bool} {P : PL.D → Prop} : bIsi [(.bl b), .ty "bool"] P = P (.bl true) := isi1 (t := "bool") rfl (by decide +kernel)
theorem isi_bl_int {b : Bool} {P : PL.D → Prop} : bIsi [(.bl b), .ty "int"] P = P (.bl true) := isi1 (t := "bool") rfl (by decide +kernel)
theorem isi_bl_str {b : Bool} {P : PL.D → Prop} : bIsi [(.bl b), .ty "str"] P = P (.bl false) := isi1 (t := "bool") rfl (by decide +kernel)
theorem isi_bl_seq {b : Bool} {P : PL.D → Prop} : bIsi [(.bl b), .tup [.ty "list", .ty "tuple"]] P = P (.bl false) := isi2 (t := "bool") (r := false) (q := false) rfl (by decide +kernel) (by decide +kernel)
theorem isi_int_list {i : Int} {P : PL.D → Prop} : bIsi [(.int i), .ty "list"] P = P (.bl false) := isi1 (t := "int") rfl (by decide +kernel)
theorem isi_int_tuple {i : Int} {P : PL.D → Prop} : bIsi [(.int i), .ty "tuple"] P = P (.bl false) := isi1 (t := "int") rfl (by decide +kernel)
theorem isi_int_bool {i : Int} {P : PL.D → Prop} : bIsi [(.int i), .ty "bool"] P = P (.bl false) := isi1 (t := "int") rfl (by decide +kernel)
theorem isi_int_int {i : Int} {P : PL.D → Prop} : bIsi [(.int i), .ty "int"] P = P (.bl true) := isi1 (t := "int") rfl (by decide +kernel)
theorem isi_int_str {i : Int} {P : PL.D → Prop} : bIsi [(.int i), .ty "str"] P = P (.bl false) := isi1 (t := "int") rfl (by decide +kernel)
theorem isi_int_seq {i : Int} {P : PL.D → Prop} : bIsi [(.int i), .tup [.ty "list", .ty "tuple"]] P = P (.bl false) := isi2 (t := "int") (r := false) (q := false) rfl (by decide +kernel) (by decide +kernel)
theorem isi_str_list {z : Str} {P : PL.D → Prop} : bIsi [(.str z), .ty "list"] P = P (.bl false) := isi1 (t := "str") rfl (by decide +kernel)
theorem isi_str_tuple {z : Str} {P : PL.D → Prop} : bIsi [(.str z), .ty "tuple"] P = P (.bl false) := isi1 (t := "str") rfl (by decide +kernel)
theorem isi_str_bool {z : Str} {P : PL.D → Prop} : bIsi [(.str z), .ty "bool"] P = P (.bl false) := isi1 (t := "str") rfl (by decide +kernel)
theorem isi_str_int {z : Str} {P : PL.D → Prop} : bIsi [(.str z), .ty "int"] P = P (.bl false) := isi1 (t := "str") rfl (by decide +kernel)
theorem isi_str_str {z : Str} {P : PL.D → Prop} : bIsi [(.str z), .ty "str"] P = P (.bl true) := isi1 (t := "str") rfl (by decide +kernel)
theorem isi_str_seq {z : Str} {P : PL.D → Prop} : bIsi [(.str z), .tup [.ty "list", .ty "tuple"]] P = P (.bl false) := isi2 (t := "str") (r := false) (q := false) rfl (by decide +kernel) (by decide +kernel)
theorem isi_tup_list {xs : List PL.D} {P : PL.D → Prop} : bIsi [(.tup xs), .ty "list"] P = P (.bl false) := isi1 (t := "tuple") rfl (by decide +kernel)
theorem isi_tup_tuple {xs : List PL.D} {P : PL.D → Prop} : bIsi [(.tup xs), .ty "tuple"] P = P (.bl true) := isi1 (t := "tuple") rfl (by decide +kernel)
theorem isi_tup_bool {xs : List PL.D} {P : PL.D → Prop} : bIsi [(.tup xs), .ty "bool"] P = P (.bl false) := isi1 (t := "tuple") rfl (by decide +kernel)
theorem isi_tup_int {xs : List PL.D} {P : PL.D → Prop} : bIsi [(.tup xs), .ty "int"] P = P (.bl false) := isi1 (t := "tuple") rfl (by decide +kernel)
theorem isi_tup_str {xs : List PL.D} {P : PL.D → Prop} : bIsi [(.tup xs), .ty "str"] P = P (.bl false) := isi1 (t := "tuple") rfl (by decide +kernel)
theorem isi_tup_seq {xs : List PL.D} {P : PL.D → Prop} : bIsi [(.tup xs), .tup [.ty "list", .ty "tuple"]] P = P (.bl true) := isi2 (t := "tuple") (r := false) (q := true) rfl (by decide +kernel) (by decide +kernel)
theorem isi_lst_list {xs : List PL.D} {P : PL.D → Prop} : bIsi [(.lst xs), .ty "list"] P = P (.bl true) := isi1 (t := "list") rfl (by decide +kernel)
theorem isi_lst_tuple {xs : List PL.D} {P : PL.D → Prop} : bIsi [(.lst xs), .ty "tuple"] P = P (.bl false) := isi1 (t := "list") rfl (by decide +kernel)
theorem isi_lst_bool {xs : List PL.D} {P : PL.D → Prop} : bIsi [(.lst xs), .ty "bool"] P = P (.bl false) := isi1 (t := "list") rfl (by decide +kernel)
theorem isi_lst_int {xs : List PL.D} {P : PL.D → Prop} : bIsi [(.lst xs), .ty "int"] P = P (.bl false) := isi1 (t := "list") rfl (by decide +kernel)
theorem isi_lst_str {xs : List PL.D} {P : PL.D → Prop} : bIsi [(.lst xs), .ty "str"] P = P (.bl false) := isi1 (t := "list") rfl (by decide +kernel)
theorem isi_lst_seq {xs : List PL.D} {P : PL.D → Prop} : bIsi [(.lst xs), .tup [.ty "list", .ty "tuple"]] P = P (.bl true) := isi2 (t := "list") (r := true) (q := false) rfl (by decide +kernel) (by decide +kernel)
end PL


set_option Elab.async false
set_option linter.all false
set_option maxRecDepth 100000
set_option maxHeartbeats 4000000
namespace Law
open PySem PySem.Spec PyProof.Rows L2 RZ PL
def top (i : Nat) : Stmt := PySem.Challenge.pw_shutopen_k03_rows_and_products.main.body.getD i (.Pass ⟨0, 0, 0, 0⟩)
/-- the built-ins' names are not bound by the module -/
structure Bu (mg : Str → Option Value) : Prop where
  b_abs : mg "abs" = none
  b_all : mg "all" = none
  b_bool : mg "bool" = none
  b_int : mg "int" = none
  b_isinstance : mg "isinstance" = none
  b_len : mg "len" = none
  b_list : mg "list" = none
  b_range : mg "range" = none
  b_str : mg "str" = none
  b_tuple : mg "tuple" = none
  b_zip : mg "zip" = none

/-! ### common_divisor -/
abbrev st_common_divisor : Stmt := top 1
theorem sc_common_divisor : FnScope ["one", "other", "large", "small"] ["one", "other"] (defScope st_common_divisor) := ⟨rfl, rfl, rfl, by decide +kernel, rfl, by decide +kernel, by decide +kernel⟩
def T_common_divisor : TDS :=
  (sSeq (sSet 2 (dCB bAbs (aCons (dVar 0) aNil)))
  (sSeq (sSet 3 (dCB bAbs (aCons (dVar 1) aNil)))
  (sSeq (sWhile (dTru (dVar 3))
  (sPar [2, 3] (aCons (dVar 3) (aCons (dOp oMod (dVar 2) (dVar 3)) aNil))))
  (sRet (dVar 2)))))
theorem body_common_divisor {P : Program} {w : World} {K : PySem.W.Frag} {mg : Str → Option Value} {base : Heap} {k : Nat} (B : Bu mg) (f : Addr) (cdv : Value) (A : Around) (outer : List Env) (st : Shared) (H : Hp) (E : XK) (hr : Room k (A.deeper (envOfC "common_divisor" (defScope st_common_divisor) st.heap.objs.size f cdv))) :
    PDSs (cxOf (L2.CX P w) P w K mg base ["one", "other", "large", "small"] "common_divisor" (defScope st_common_divisor) f cdv A outer st H E) E (defBody st_common_divisor) (T_common_divisor) :=
  (pdss_cons (pds_set (pd_callB call_abs cd_abs m_abs (by rfl) B.b_abs boot_abs (pda_cons (pd_var (pv 0)) pda_nil)) (fun h => ps_set (i := 2) sc_common_divisor.nd rfl (Or.inl rfl) h))
  (pdss_cons (pds_set (pd_callB call_abs cd_abs m_abs (by rfl) B.b_abs boot_abs (pda_cons (pd_var (pv 1)) pda_nil)) (fun h => ps_set (i := 3) sc_common_divisor.nd rfl (Or.inl rfl) h))
  (pdss_cons (pds_while (passes_of rfl) (pdt_truth (pd_var (pv 3)))
  (pdss_one (pds_par (pda_cons (pd_var (pv 3)) (pda_cons (pd_mod (pd_var (pv 2)) (pd_var (pv 3))) pda_nil)) (fun h => ps_par (i := 2) (j := 3) rfl sc_common_divisor.nd rfl rfl (by decide) rfl rfl h (by rfl)))))
  (pdss_one (pds_ret (pd_var (pv 2)))))))

/-! ### divisor_of -/
abbrev st_divisor_of : Stmt := top 2
theorem sc_divisor_of : FnScope ["numbers", "divisor", "number"] ["numbers"] (defScope st_divisor_of) := ⟨rfl, rfl, rfl, by decide +kernel, rfl, by decide +kernel, by decide +kernel⟩
def T_divisor_of (s_common_divisor : SpD) : TDS :=
  (sSeq (sSet 1 (dC (.int 0)))
  (sSeq (sFor (iItems (dVar 0)) (.nm 2)
  (sSeq (sIf (dTest (dOp oEq (dVar 1) (dC (.int 1))))
  (sRet (dC (.int 1))) sNext)
  (sSet 1 (dCall 2 s_common_divisor [] (aCons (dVar 1) (aCons (dVar 2) aNil))))))
  (sRet (dVar 1))))
theorem body_divisor_of {P : Program} {w : World} {K : PySem.W.Frag} {mg : Str → Option Value} {base : Heap} {k : Nat} {s_common_divisor : SpD} (m_common_divisor : MonoSp s_common_divisor) (c_common_divisor : Cal P w K mg base "common_divisor" k 2 s_common_divisor) (B : Bu mg) (f : Addr) (cdv : Value) (A : Around) (outer : List Env) (st : Shared) (H : Hp) (E : XK) (hr : Room k (A.deeper (envOfC "divisor_of" (defScope st_divisor_of) st.heap.objs.size f cdv))) :
    PDSs (cxOf (L2.CX P w) P w K mg base ["numbers", "divisor", "number"] "divisor_of" (defScope st_divisor_of) f cdv A outer st H E) E (defBody st_divisor_of) (T_divisor_of s_common_divisor) :=
  (pdss_cons (pds_set pd_int (fun h => ps_set (i := 1) sc_divisor_of.nd rfl (Or.inl rfl) h))
  (pdss_cons (pds_for (passes_of rfl) rfl (pdi_any (pd_var (pv 0))) (pgd_name (pg_name (i := 2) sc_divisor_of.nd rfl (Or.inl rfl)))
  (pdss_cons (pds_if (pdt_eq hr.units (pd_var (pv 1)) pd_int)
  (pdss_one (pds_ret pd_int)) pdss_nil)
  (pdss_one (pds_set (pd_cal c_common_divisor m_common_divisor hr (by rfl) (pda_cons (pd_var (pv 1)) (pda_cons (pd_var (pv 2)) pda_nil))) (fun h => ps_set (i := 1) sc_divisor_of.nd rfl (Or.inl rfl) h)))))
  (pdss_one (pds_ret (pd_var (pv 1))))))

/-! ### fraction -/
abbrev st_fraction : Stmt := top 8
theorem sc_fraction : FnScope ["n", "d", "divisor"] ["n", "d"] (defScope st_fraction) := ⟨rfl, rfl, rfl, by decide +kernel, rfl, by decide +kernel, by decide +kernel⟩
def T_fraction (s_common_divisor : SpD) : TDS :=
  (sSeq (sIf (dTest (dOp oEq (dVar 1) (dC (.int 0))))
  sNever sNext)
  (sSeq (sIf (dTest (dOp oLt (dVar 1) (dC (.int 0))))
  (sSeq (sSet 0 (dUn uNeg (dVar 0)))
  (sSet 1 (dUn uNeg (dVar 1)))) sNext)
  (sSeq (sIf (dTest (dOp oEq (dVar 1) (dC (.int 1))))
  (sRet (dTup (aCons (dVar 0) (aCons (dC (.int 1)) aNil)))) sNext)
  (sSeq (sSet 2 (dCall 2 s_common_divisor [] (aCons (dVar 0) (aCons (dVar 1) aNil))))
  (sRet (dTup (aCons (dOp oDiv (dVar 0) (dVar 2)) (aCons (dOp oDiv (dVar 1) (dVar 2)) aNil))))))))
theorem body_fraction {P : Program} {w : World} {K : PySem.W.Frag} {mg : Str → Option Value} {base : Heap} {k : Nat} {s_common_divisor : SpD} (m_common_divisor : MonoSp s_common_divisor) (c_common_divisor : Cal P w K mg base "common_divisor" k 2 s_common_divisor) (B : Bu mg) (f : Addr) (cdv : Value) (A : Around) (outer : List Env) (st : Shared) (H : Hp) (E : XK) (hr : Room k (A.deeper (envOfC "fraction" (defScope st_fraction) st.heap.objs.size f cdv))) :
    PDSs (cxOf (L2.CX P w) P w K mg base ["n", "d", "divisor"] "fraction" (defScope st_fraction) f cdv A outer st H E) E (defBody st_fraction) (T_fraction s_common_divisor) :=
  (pdss_cons (pds_if (pdt_eq hr.units (pd_var (pv 1)) pd_int)
  (pdss_one pds_never) pdss_nil)
  (pdss_cons (pds_if (pdt_lt (pd_var (pv 1)) pd_int)
  (pdss_cons (pds_set (pd_neg (pd_var (pv 0))) (fun h => ps_set (i := 0) sc_fraction.nd rfl (Or.inl rfl) h))
  (pdss_one (pds_set (pd_neg (pd_var (pv 1))) (fun h => ps_set (i := 1) sc_fraction.nd rfl (Or.inl rfl) h)))) pdss_nil)
  (pdss_cons (pds_if (pdt_eq hr.units (pd_var (pv 1)) pd_int)
  (pdss_one (pds_ret (pd_tup (pda_cons (pd_var (pv 0)) (pda_cons pd_int pda_nil))))) pdss_nil)
  (pdss_cons (pds_set (pd_cal c_common_divisor m_common_divisor hr (by rfl) (pda_cons (pd_var (pv 0)) (pda_cons (pd_var (pv 1)) pda_nil))) (fun h => ps_set (i := 2) sc_fraction.nd rfl (Or.inl rfl) h))
  (pdss_one (pds_ret (pd_tup (pda_cons (pd_fdiv (pd_var (pv 0)) (pd_var (pv 2))) (pda_cons (pd_fdiv (pd_var (pv 1)) (pd_var (pv 2))) pda_nil)))))))))

/-! ### plus -/
abbrev st_plus : Stmt := top 9
theorem sc_plus : FnScope ["one", "other"] ["one", "other"] (defScope st_plus) := ⟨rfl, rfl, rfl, by decide +kernel, rfl, by decide +kernel, by decide +kernel⟩
def T_plus (s_fraction : SpD) : TDS :=
  (sSeq (sIf (dTest (dOp oEq (dOp oIx (dVar 0) (dC (.int 1))) (dOp oIx (dVar 1) (dC (.int 1)))))
  (sRet (dCall 2 s_fraction [] (aCons (dOp oAdd (dOp oIx (dVar 0) (dC (.int 0))) (dOp oIx (dVar 1) (dC (.int 0)))) (aCons (dOp oIx (dVar 0) (dC (.int 1))) aNil)))) sNext)
  (sRet (dCall 2 s_fraction [] (aCons (dOp oAdd (dOp oMulA (dOp oIx (dVar 0) (dC (.int 0))) (dOp oIx (dVar 1) (dC (.int 1)))) (dOp oMulA (dOp oIx (dVar 1) (dC (.int 0))) (dOp oIx (dVar 0) (dC (.int 1))))) (aCons (dOp oMulA (dOp oIx (dVar 0) (dC (.int 1))) (dOp oIx (dVar 1) (dC (.int 1)))) aNil)))))
theorem body_plus {P : Program} {w : World} {K : PySem.W.Frag} {mg : Str → Option Value} {base : Heap} {k : Nat} {s_fraction : SpD} (m_fraction : MonoSp s_fraction) (c_fraction : Cal P w K mg base "fraction" k 2 s_fraction) (B : Bu mg) (f : Addr) (cdv : Value) (A : Around) (outer : List Env) (st : Shared) (H : Hp) (E : XK) (hr : Room k (A.deeper (envOfC "plus" (defScope st_plus) st.heap.objs.size f cdv))) :
    PDSs (cxOf (L2.CX P w) P w K mg base ["one", "other"] "plus" (defScope st_plus) f cdv A outer st H E) E (defBody st_plus) (T_plus s_fraction) :=
  (pdss_cons (pds_if (pdt_eq hr.units (pd_ix (pd_var (pv 0)) pd_int (fun _ _ => rfl)) (pd_ix (pd_var (pv 1)) pd_int (fun _ _ => rfl)))
  (pdss_one (pds_ret (pd_cal c_fraction m_fraction hr (by rfl) (pda_cons (pd_add (pd_ix (pd_var (pv 0)) pd_int (fun _ _ => rfl)) (pd_ix (pd_var (pv 1)) pd_int (fun _ _ => rfl))) (pda_cons (pd_ix (pd_var (pv 0)) pd_int (fun _ _ => rfl)) pda_nil))))) pdss_nil)
  (pdss_one (pds_ret (pd_cal c_fraction m_fraction hr (by rfl) (pda_cons (pd_add (pd_mul (pd_ix (pd_var (pv 0)) pd_int (fun _ _ => rfl)) (pd_ix (pd_var (pv 1)) pd_int (fun _ _ => rfl))) (pd_mul (pd_ix (pd_var (pv 1)) pd_int (fun _ _ => rfl)) (pd_ix (pd_var (pv 0)) pd_int (fun _ _ => rfl)))) (pda_cons (pd_mul (pd_ix (pd_var (pv 0)) pd_int (fun _ _ => rfl)) (pd_ix (pd_var (pv 1)) pd_int (fun _ _ => rfl))) pda_nil))))))

/-! ### times -/
abbrev st_times : Stmt := top 10
theorem sc_times : FnScope ["one", "other"] ["one", "other"] (defScope st_times) := ⟨rfl, rfl, rfl, by decide +kernel, rfl, by decide +kernel, by decide +kernel⟩
def T_times (s_fraction : SpD) : TDS :=
  (sRet (dCall 2 s_fraction [] (aCons (dOp oMulA (dOp oIx (dVar 0) (dC (.int 0))) (dOp oIx (dVar 1) (dC (.int 0)))) (aCons (dOp oMulA (dOp oIx (dVar 0) (dC (.int 1))) (dOp oIx (dVar 1) (dC (.int 1)))) aNil))))
theorem body_times {P : Program} {w : World} {K : PySem.W.Frag} {mg : Str → Option Value} {base : Heap} {k : Nat} {s_fraction : SpD} (m_fraction : MonoSp s_fraction) (c_fraction : Cal P w K mg base "fraction" k 2 s_fraction) (B : Bu mg) (f : Addr) (cdv : Value) (A : Around) (outer : List Env) (st : Shared) (H : Hp) (E : XK) (hr : Room k (A.deeper (envOfC "times" (defScope st_times) st.heap.objs.size f cdv))) :
    PDSs (cxOf (L2.CX P w) P w K mg base ["one", "other"] "times" (defScope st_times) f cdv A outer st H E) E (defBody st_times) (T_times s_fraction) :=
  (pdss_one (pds_ret (pd_cal c_fraction m_fraction hr (by rfl) (pda_cons (pd_mul (pd_ix (pd_var (pv 0)) pd_int (fun _ _ => rfl)) (pd_ix (pd_var (pv 1)) pd_int (fun _ _ => rfl))) (pda_cons (pd_mul (pd_ix (pd_var (pv 0)) pd_int (fun _ _ => rfl)) (pd_ix (pd_var (pv 1)) pd_int (fun _ _ => rfl))) pda_nil)))))

/-! ### product -/
abbrev st_product : Stmt := top 11
theorem sc_product : FnScope ["one", "other", "top", "bottom", "left", "right", "n", "d"] ["one", "other"] (defScope st_product) := ⟨rfl, rfl, rfl, by decide +kernel, rfl, by decide +kernel, by decide +kernel⟩
def T_product (s_fraction : SpD) : TDS :=
  (sSeq (sSet 2 (dC (.int 0)))
  (sSeq (sSet 3 (dC (.int 1)))
  (sSeq (sFor (iZip2 (aCons (dVar 0) (aCons (dVar 1) aNil))) (.tup [(.nm 4), (.nm 5)])
  (sSeq (sSet 6 (dOp oMulA (dOp oIx (dVar 4) (dC (.int 0))) (dOp oIx (dVar 5) (dC (.int 0)))))
  (sSeq (sSet 7 (dOp oMulA (dOp oIx (dVar 4) (dC (.int 1))) (dOp oIx (dVar 5) (dC (.int 1)))))
  (sIf (dAnd (dTest (dOp oNe (dVar 6) (dC (.int 0)))) (dTest (dOp oEq (dVar 7) (dVar 3))))
  (sSet 2 (dOp oAdd (dVar 2) (dVar 6))) (sIf (dAnd (dTest (dOp oNe (dVar 6) (dC (.int 0)))) (dTest (dOp oEq (dVar 7) (dC (.int 1)))))
  (sSet 2 (dOp oAdd (dVar 2) (dOp oMulA (dVar 6) (dVar 3)))) (sIf (dTest (dOp oNe (dVar 6) (dC (.int 0))))
  (sAsg (.tup [(.nm 2), (.nm 3)]) (dCall 2 s_fraction [] (aCons (dOp oAdd (dOp oMulA (dVar 2) (dVar 7)) (dOp oMulA (dVar 6) (dVar 3))) (aCons (dOp oMulA (dVar 3) (dVar 7)) aNil)))) sNext))))))
  (sRet (dCall 2 s_fraction [] (aCons (dVar 2) (aCons (dVar 3) aNil)))))))
theorem body_product {P : Program} {w : World} {K : PySem.W.Frag} {mg : Str → Option Value} {base : Heap} {k : Nat} {s_fraction : SpD} (m_fraction : MonoSp s_fraction) (c_fraction : Cal P w K mg base "fraction" k 2 s_fraction) (B : Bu mg) (f : Addr) (cdv : Value) (A : Around) (outer : List Env) (st : Shared) (H : Hp) (E : XK) (hr : Room k (A.deeper (envOfC "product" (defScope st_product) st.heap.objs.size f cdv))) :
    PDSs (cxOf (L2.CX P w) P w K mg base ["one", "other", "top", "bottom", "left", "right", "n", "d"] "product" (defScope st_product) f cdv A outer st H E) E (defBody st_product) (T_product s_fraction) :=
  (pdss_cons (pds_set pd_int (fun h => ps_set (i := 2) sc_product.nd rfl (Or.inl rfl) h))
  (pdss_cons (pds_set pd_int (fun h => ps_set (i := 3) sc_product.nd rfl (Or.inl rfl) h))
  (pdss_cons (pds_for (passes_of rfl) rfl (pdi_zip (by rfl) B.b_zip (pda_cons (pd_var (pv 0)) (pda_cons (pd_var (pv 1)) pda_nil))) (pgd_tup rfl (pgds_cons (pgd_name (pg_name (i := 4) sc_product.nd rfl (Or.inl rfl))) (pgds_cons (pgd_name (pg_name (i := 5) sc_product.nd rfl (Or.inl rfl))) pgds_nil)) rfl)
  (pdss_cons (pds_set (pd_mul (pd_ix (pd_var (pv 4)) pd_int (fun _ _ => rfl)) (pd_ix (pd_var (pv 5)) pd_int (fun _ _ => rfl))) (fun h => ps_set (i := 6) sc_product.nd rfl (Or.inl rfl) h))
  (pdss_cons (pds_set (pd_mul (pd_ix (pd_var (pv 4)) pd_int (fun _ _ => rfl)) (pd_ix (pd_var (pv 5)) pd_int (fun _ _ => rfl))) (fun h => ps_set (i := 7) sc_product.nd rfl (Or.inl rfl) h))
  (pdss_one (pds_if (PDW.pt (pdw_and (pdt_ne hr.units (pd_var (pv 6)) pd_int) (pdw_and1 (pdt_eq hr.units (pd_var (pv 7)) (pd_var (pv 3))))))
  (pdss_one (pds_set (pd_add (pd_var (pv 2)) (pd_var (pv 6))) (fun h => ps_set (i := 2) sc_product.nd rfl (Or.inl rfl) h))) (pdss_one (pds_if (PDW.pt (pdw_and (pdt_ne hr.units (pd_var (pv 6)) pd_int) (pdw_and1 (pdt_eq hr.units (pd_var (pv 7)) pd_int))))
  (pdss_one (pds_set (pd_add (pd_var (pv 2)) (pd_mul (pd_var (pv 6)) (pd_var (pv 3)))) (fun h => ps_set (i := 2) sc_product.nd rfl (Or.inl rfl) h))) (pdss_one (pds_if (pdt_ne hr.units (pd_var (pv 6)) pd_int)
  (pdss_one (pds_asg (pd_cal c_fraction m_fraction hr (by rfl) (pda_cons (pd_add (pd_mul (pd_var (pv 2)) (pd_var (pv 7))) (pd_mul (pd_var (pv 6)) (pd_var (pv 3)))) (pda_cons (pd_mul (pd_var (pv 3)) (pd_var (pv 7))) pda_nil))) (fun h => ps_asg h (pgd_tup rfl (pgds_cons (pgd_name (pg_name (i := 2) sc_product.nd rfl (Or.inl rfl))) (pgds_cons (pgd_name (pg_name (i := 3) sc_product.nd rfl (Or.inl rfl))) pgds_nil)) rfl)))) pdss_nil)))))))))
  (pdss_one (pds_ret (pd_cal c_fraction m_fraction hr (by rfl) (pda_cons (pd_var (pv 2)) (pda_cons (pd_var (pv 3)) pda_nil))))))))

/-! ### scaled -/
abbrev st_scaled : Stmt := top 12
theorem sc_scaled : FnScope ["row", "value", "item"] ["row", "value"] (defScope st_scaled) := ⟨rfl, rfl, rfl, by decide +kernel, rfl, by decide +kernel, by decide +kernel⟩
def T_scaled (s_times : SpD) : TDS :=
  (sRet (dCB bTuple (aCons (dNew (fLc (iItems (dVar 0)) (.nm 2) tAll (dCall 2 s_times [] (aCons (dVar 2) (aCons (dVar 1) aNil))) [2])) aNil)))
theorem body_scaled {P : Program} {w : World} {K : PySem.W.Frag} {mg : Str → Option Value} {base : Heap} {k : Nat} {s_times : SpD} (m_times : MonoSp s_times) (c_times : Cal P w K mg base "times" k 2 s_times) (B : Bu mg) (f : Addr) (cdv : Value) (A : Around) (outer : List Env) (st : Shared) (H : Hp) (E : XK) (hr : Room k (A.deeper (envOfC "scaled" (defScope st_scaled) st.heap.objs.size f cdv))) :
    PDSs (cxOf (L2.CX P w) P w K mg base ["row", "value", "item"] "scaled" (defScope st_scaled) f cdv A outer st H E) E (defBody st_scaled) (T_scaled s_times) :=
  (pdss_one (pds_ret (pd_callTy call_tuple_of cd_tuple m_tuple (by rfl) B.b_tuple boot_tuple (pda_cons (PDF.pd (pdf_lc rfl sc_scaled.nd (pdi_any (pd_var (pv 0))) (blkOk_by (own := [("item", 2)]) (by kernel_rfl)) (fun _ _ _ _ _ => (pgd_name (pg_name (i := 2) sc_scaled.nd rfl (by first | exact Or.inl rfl | exact Or.inr rfl)))) (fun _ _ _ _ _ => pdts_nil) (fun _ _ _ _ _ => (pd_cal c_times m_times hr (by rfl) (pda_cons (pd_var (pv 2)) (pda_cons (pd_var (pv 1)) pda_nil)))))) pda_nil))))

/-! ### added -/
abbrev st_added : Stmt := top 13
theorem sc_added : FnScope ["one", "other", "left", "right"] ["one", "other"] (defScope st_added) := ⟨rfl, rfl, rfl, by decide +kernel, rfl, by decide +kernel, by decide +kernel⟩
def T_added (s_plus : SpD) : TDS :=
  (sRet (dCB bTuple (aCons (dNew (fLc (iZip2 (aCons (dVar 0) (aCons (dVar 1) aNil))) (.tup [(.nm 2), (.nm 3)]) tAll (dCall 2 s_plus [] (aCons (dVar 2) (aCons (dVar 3) aNil))) [2, 3])) aNil)))
theorem body_added {P : Program} {w : World} {K : PySem.W.Frag} {mg : Str → Option Value} {base : Heap} {k : Nat} {s_plus : SpD} (m_plus : MonoSp s_plus) (c_plus : Cal P w K mg base "plus" k 2 s_plus) (B : Bu mg) (f : Addr) (cdv : Value) (A : Around) (outer : List Env) (st : Shared) (H : Hp) (E : XK) (hr : Room k (A.deeper (envOfC "added" (defScope st_added) st.heap.objs.size f cdv))) :
    PDSs (cxOf (L2.CX P w) P w K mg base ["one", "other", "left", "right"] "added" (defScope st_added) f cdv A outer st H E) E (defBody st_added) (T_added s_plus) :=
  (pdss_one (pds_ret (pd_callTy call_tuple_of cd_tuple m_tuple (by rfl) B.b_tuple boot_tuple (pda_cons (PDF.pd (pdf_lc rfl sc_added.nd (pdi_zip (by rfl) B.b_zip (pda_cons (pd_var (pv 0)) (pda_cons (pd_var (pv 1)) pda_nil))) (blkOk_by (own := [("left", 2), ("right", 3)]) (by kernel_rfl)) (fun _ _ _ _ _ => (pgd_tup rfl (pgds_cons (pgd_name (pg_name (i := 2) sc_added.nd rfl (by first | exact Or.inl rfl | exact Or.inr rfl))) (pgds_cons (pgd_name (pg_name (i := 3) sc_added.nd rfl (by first | exact Or.inl rfl | exact Or.inr rfl))) pgds_nil)) rfl)) (fun _ _ _ _ _ => pdts_nil) (fun _ _ _ _ _ => (pd_cal c_plus m_plus hr (by rfl) (pda_cons (pd_var (pv 2)) (pda_cons (pd_var (pv 3)) pda_nil)))))) pda_nil))))

/-! ### whole_factor -/
abbrev st_whole_factor : Stmt := top 14
theorem sc_whole_factor : FnScope ["row", "bottom", "item", "divisor"] ["row"] (defScope st_whole_factor) := ⟨rfl, rfl, rfl, by decide +kernel, rfl, by decide +kernel, by decide +kernel⟩
def T_whole_factor (s_common_divisor : SpD) (s_divisor_of : SpD) (s_fraction : SpD) (d_ONE : PL.D) : TDS :=
  (sSeq (sSet 1 (dC (.int 1)))
  (sSeq (sFor (iItems (dVar 0)) (.nm 2)
  (sSet 1 (dOp oMulA (dVar 1) (dOp oDiv (dOp oIx (dVar 2) (dC (.int 1))) (dCall 2 s_common_divisor [] (aCons (dVar 1) (aCons (dOp oIx (dVar 2) (dC (.int 1))) aNil)))))))
  (sSeq (sSet 3 (dCall 1 s_divisor_of [] (aCons (dNew (fLc (iItems (dVar 0)) (.nm 2) tAll (dOp oMulA (dOp oIx (dVar 2) (dC (.int 0))) (dOp oDiv (dVar 1) (dOp oIx (dVar 2) (dC (.int 1))))) [2])) aNil)))
  (sRet (dIf (dTest (dOp oGt (dVar 3) (dC (.int 0)))) (dCall 2 s_fraction [] (aCons (dVar 1) (aCons (dVar 3) aNil))) (dC d_ONE))))))
theorem body_whole_factor {P : Program} {w : World} {K : PySem.W.Frag} {mg : Str → Option Value} {base : Heap} {k : Nat} {s_common_divisor : SpD} {s_divisor_of : SpD} {s_fraction : SpD} {d_ONE : PL.D} (m_common_divisor : MonoSp s_common_divisor) (m_divisor_of : MonoSp s_divisor_of) (m_fraction : MonoSp s_fraction) (c_common_divisor : Cal P w K mg base "common_divisor" k 2 s_common_divisor) (c_divisor_of : Cal P w K mg base "divisor_of" k 1 s_divisor_of) (c_fraction : Cal P w K mg base "fraction" k 2 s_fraction) (k_ONE : PL.Con K mg "ONE" d_ONE) (B : Bu mg) (f : Addr) (cdv : Value) (A : Around) (outer : List Env) (st : Shared) (H : Hp) (E : XK) (hr : Room k (A.deeper (envOfC "whole_factor" (defScope st_whole_factor) st.heap.objs.size f cdv))) :
    PDSs (cxOf (L2.CX P w) P w K mg base ["row", "bottom", "item", "divisor"] "whole_factor" (defScope st_whole_factor) f cdv A outer st H E) E (defBody st_whole_factor) (T_whole_factor s_common_divisor s_divisor_of s_fraction d_ONE) :=
  (pdss_cons (pds_set pd_int (fun h => ps_set (i := 1) sc_whole_factor.nd rfl (Or.inr rfl) h))
  (pdss_cons (pds_for (passes_of rfl) rfl (pdi_any (pd_var (pv 0))) (pgd_name (pg_name (i := 2) sc_whole_factor.nd rfl (Or.inl rfl)))
  (pdss_one (pds_set (pd_mul (pd_var (pv 1)) (pd_fdiv (pd_ix (pd_var (pv 2)) pd_int (fun _ _ => rfl)) (pd_cal c_common_divisor m_common_divisor hr (by rfl) (pda_cons (pd_var (pv 1)) (pda_cons (pd_ix (pd_var (pv 2)) pd_int (fun _ _ => rfl)) pda_nil))))) (fun h => ps_set (i := 1) sc_whole_factor.nd rfl (Or.inr rfl) h))))
  (pdss_cons (pds_set (pd_cal c_divisor_of m_divisor_of hr (by rfl) (pda_cons (PDF.pd (pdf_lc rfl sc_whole_factor.nd (pdi_any (pd_var (pv 0))) (blkOk_by (own := [("item", 2)]) (by kernel_rfl)) (fun _ _ _ _ _ => (pgd_name (pg_name (i := 2) sc_whole_factor.nd rfl (by first | exact Or.inl rfl | exact Or.inr rfl)))) (fun _ _ _ _ _ => pdts_nil) (fun _ _ _ _ _ => (pd_mul (pd_ix (pd_var (pv 2)) pd_int (fun _ _ => rfl)) (pd_fdiv (pd_var (pv 1)) (pd_ix (pd_var (pv 2)) pd_int (fun _ _ => rfl))))))) pda_nil)) (fun h => ps_set (i := 3) sc_whole_factor.nd rfl (Or.inl rfl) h))
  (pdss_one (pds_ret (pd_ifExp (pdt_gt (pd_var (pv 3)) pd_int) (pd_cal c_fraction m_fraction hr (by rfl) (pda_cons (pd_var (pv 1)) (pda_cons (pd_var (pv 3)) pda_nil))) (pd_con k_ONE (by rfl))))))))

/-! ### whole_row -/
abbrev st_whole_row : Stmt := top 15
theorem sc_whole_row : FnScope ["row", "factor", "item"] ["row"] (defScope st_whole_row) := ⟨rfl, rfl, rfl, by decide +kernel, rfl, by decide +kernel, by decide +kernel⟩
def T_whole_row (s_whole_factor : SpD) : TDS :=
  (sSeq (sSet 1 (dCall 1 s_whole_factor [] (aCons (dVar 0) aNil)))
  (sRet (dCB bTuple (aCons (dNew (fLc (iItems (dVar 0)) (.nm 2) tAll (dOp oDiv (dOp oMulA (dOp oIx (dVar 2) (dC (.int 0))) (dOp oIx (dVar 1) (dC (.int 0)))) (dOp oMulA (dOp oIx (dVar 2) (dC (.int 1))) (dOp oIx (dVar 1) (dC (.int 1))))) [2])) aNil))))
theorem body_whole_row {P : Program} {w : World} {K : PySem.W.Frag} {mg : Str → Option Value} {base : Heap} {k : Nat} {s_whole_factor : SpD} (m_whole_factor : MonoSp s_whole_factor) (c_whole_factor : Cal P w K mg base "whole_factor" k 1 s_whole_factor) (B : Bu mg) (f : Addr) (cdv : Value) (A : Around) (outer : List Env) (st : Shared) (H : Hp) (E : XK) (hr : Room k (A.deeper (envOfC "whole_row" (defScope st_whole_row) st.heap.objs.size f cdv))) :
    PDSs (cxOf (L2.CX P w) P w K mg base ["row", "factor", "item"] "whole_row" (defScope st_whole_row) f cdv A outer st H E) E (defBody st_whole_row) (T_whole_row s_whole_factor) :=
  (pdss_cons (pds_set (pd_cal c_whole_factor m_whole_factor hr (by rfl) (pda_cons (pd_var (pv 0)) pda_nil)) (fun h => ps_set (i := 1) sc_whole_row.nd rfl (Or.inr rfl) h))
  (pdss_one (pds_ret (pd_callTy call_tuple_of cd_tuple m_tuple (by rfl) B.b_tuple boot_tuple (pda_cons (PDF.pd (pdf_lc rfl sc_whole_row.nd (pdi_any (pd_var (pv 0))) (blkOk_by (own := [("item", 2)]) (by kernel_rfl)) (fun _ _ _ _ _ => (pgd_name (pg_name (i := 2) sc_whole_row.nd rfl (by first | exact Or.inl rfl | exact Or.inr rfl)))) (fun _ _ _ _ _ => pdts_nil) (fun _ _ _ _ _ => (pd_fdiv (pd_mul (pd_ix (pd_var (pv 2)) pd_int (fun _ _ => rfl)) (pd_ix (pd_var (pv 1)) pd_int (fun _ _ => rfl))) (pd_mul (pd_ix (pd_var (pv 2)) pd_int (fun _ _ => rfl)) (pd_ix (pd_var (pv 1)) pd_int (fun _ _ => rfl))))))) pda_nil)))))

/-! ### _law_bag -/
abbrev st_law_bag : Stmt := top 17
theorem sc_law_bag : FnScope ["_law_script", "_law_cells"] ["_law_script"] (defScope st_law_bag) := ⟨rfl, rfl, rfl, by decide +kernel, rfl, by decide +kernel, by decide +kernel⟩
theorem body_law_bag {P : Program} {w : World} {K : PySem.W.Frag} {mg : Str → Option Value} {base : Heap} {k : Nat} (B : Bu mg) (f : Addr) (cdv : Value) (A : Around) (outer : List Env) (st : Shared) (H : Hp) (E : XK) (hr : Room k (A.deeper (envOfC "_law_bag" (defScope st_law_bag) st.heap.objs.size f cdv))) :
    PSs (cxOf (L2.CX P w) P w K mg base ["_law_script", "_law_cells"] "_law_bag" (defScope st_law_bag) f cdv A outer st H E) (defBody st_law_bag) (tBag K) :=
  pss_cons (ps_set (i := 1) sc_law_bag.nd rfl (Or.inl rfl) (pe_callTy call_list_of (by rfl) B.b_list boot_list (pa_cons (pe_slice sl_list (pv 0) po_none (po_some pe_int)) pa_nil))) (pss_one (ps_ret (pe_lst (pa_cons (pv 1) (pa_cons pe_int (pa_cons pe_int (pa_cons (pe_op op_add pe_int (pe_op op_mul pe_int (pe_callB call_len (by rfl) B.b_len PySem.boot_len (pa_cons (pv 1) pa_nil)))) (pa_cons pe_int pa_nil))))))))

/-! ### _law_draw -/
abbrev st_law_draw : Stmt := top 18
theorem sc_law_draw : FnScope ["_law_bag_here", "_law_top", "_law_cell", "_law_digit", "_law_seed"] ["_law_bag_here", "_law_top"] (defScope st_law_draw) := ⟨rfl, rfl, rfl, by decide +kernel, rfl, by decide +kernel, by decide +kernel⟩
theorem body_law_draw {P : Program} {w : World} {K : PySem.W.Frag} {mg : Str → Option Value} {base : Heap} {k : Nat} (B : Bu mg) (f : Addr) (cdv : Value) (A : Around) (outer : List Env) (st : Shared) (H : Hp) (E : XK) (hr : Room k (A.deeper (envOfC "_law_draw" (defScope st_law_draw) st.heap.objs.size f cdv))) :
    PSs (cxOf (L2.CX P w) P w K mg base ["_law_bag_here", "_law_top", "_law_cell", "_law_digit", "_law_seed"] "_law_draw" (defScope st_law_draw) f cdv A outer st H E) (defBody st_law_draw) (tDraw K) :=
  pss_cons (ps_asg (pe_op op_add (pe_ix ix_list (pv 0) pe_int (fun _ _ => rfl)) pe_int) (pg_sub (pv 0) pe_int set_list)) (pss_cons (ps_if (PW.pt (pw_and (pt_cmpR op_eq (pe_ix ix_list (pv 0) pe_int (fun _ _ => rfl)) pe_int (nomark _)) (pw_and1 (pt_cmpR op_lt (pe_ix ix_list (pv 0) pe_int (fun _ _ => rfl)) (pe_callB call_len (by rfl) B.b_len PySem.boot_len (pa_cons (pe_ix ix_list (pv 0) pe_int (fun _ _ => rfl)) pa_nil)) (nomark _)))))
    (pss_cons (ps_set (i := 2) sc_law_draw.nd rfl (Or.inl rfl) (pe_ix ix_list (pe_ix ix_list (pv 0) pe_int (fun _ _ => rfl)) (pe_ix ix_list (pv 0) pe_int (fun _ _ => rfl)) (fun _ _ => rfl)))
    (pss_cons (ps_asg (pe_op op_add (pe_ix ix_list (pv 0) pe_int (fun _ _ => rfl)) pe_int) (pg_sub (pv 0) pe_int set_list))
    (pss_one (ps_if (pt_cmpR op_ge (pe_callB call_abs (by rfl) B.b_abs boot_abs (pa_cons (pv 2) pa_nil)) (pe_op op_pow pe_int pe_int) (nomark _)) (pss_one (ps_asg (pe_callB call_abs (by rfl) B.b_abs boot_abs (pa_cons (pv 2) pa_nil)) (pg_sub (pv 0) pe_int set_list))) (pss_one (ps_asg (pe_op op_mod (pe_callTy call_int1 (by rfl) B.b_int boot_int (pa_cons (pe_op op_add (pe_op op_add (pe_op op_mul (pe_ix ix_list (pv 0) pe_int (fun _ _ => rfl)) pe_int) (pe_op op_mul (pe_op op_mod (pe_callTy call_int1 (by rfl) B.b_int boot_int (pa_cons (pv 2) pa_nil)) pe_int) pe_int)) pe_int) pa_nil)) pe_int) (pg_sub (pv 0) pe_int set_list))))))) pss_nil)
  (pss_cons (ps_if (pt_cmpR op_gt (pe_ix ix_list (pv 0) pe_int (fun _ _ => rfl)) pe_int (nomark _)) (pss_cons (ps_set (i := 3) sc_law_draw.nd rfl (Or.inl rfl) (pe_op op_mod (pe_callTy call_int1 (by rfl) B.b_int boot_int (pa_cons (pe_ix ix_list (pv 0) pe_int (fun _ _ => rfl)) pa_nil)) (pv 1))) (pss_cons (ps_asg (pe_op op_fdivW (pe_ix ix_list (pv 0) pe_int (fun _ _ => rfl)) (pv 1)) (pg_sub (pv 0) pe_int set_list)) (pss_one (ps_ret (pv 3))))) pss_nil)
  (pss_cons (ps_set (i := 4) sc_law_draw.nd rfl (Or.inl rfl) (pe_ix ix_list (pv 0) pe_int (fun _ _ => rfl)))
  (pss_cons (ps_asg (pe_op op_mod (pe_callTy call_int1 (by rfl) B.b_int boot_int (pa_cons (pe_op op_add (pe_op op_add (pe_op op_add (pe_op op_pow (pv 4) pe_int) (pe_op op_mul (pv 4) pe_int)) (pe_op op_mul (pe_ix ix_list (pv 0) pe_int (fun _ _ => rfl)) pe_int)) pe_int) pa_nil)) pe_int) (pg_sub (pv 0) pe_int set_list))
  (pss_one (ps_ret (pe_op op_mod (pe_callTy call_int1 (by rfl) B.b_int boot_int (pa_cons (pe_op op_add (pe_op op_fdivW (pe_ix ix_list (pv 0) pe_int (fun _ _ => rfl)) pe_int) (pe_op op_mul (pe_op op_mod (pe_callTy call_int1 (by rfl) B.b_int boot_int (pa_cons (pe_ix ix_list (pv 0) pe_int (fun _ _ => rfl)) pa_nil)) pe_int) pe_int)) pa_nil)) (pv 1))))))))

/-! ### _law_pick -/
abbrev st_law_pick : Stmt := top 19
theorem sc_law_pick : FnScope ["_law_bag_here", "_law_some"] ["_law_bag_here", "_law_some"] (defScope st_law_pick) := ⟨rfl, rfl, rfl, by decide +kernel, rfl, by decide +kernel, by decide +kernel⟩
def T_law_pick (s_law_draw : SpD) : TDS :=
  (sRet (dOp oIx (dVar 1) (dCall 2 s_law_draw [] (aCons (dVar 0) (aCons (dCB bLen (aCons (dVar 1) aNil)) aNil)))))
theorem body_law_pick {P : Program} {w : World} {K : PySem.W.Frag} {mg : Str → Option Value} {base : Heap} {k : Nat} {s_law_draw : SpD} (m_law_draw : MonoSp s_law_draw) (c_law_draw : Cal P w K mg base "_law_draw" k 2 s_law_draw) (B : Bu mg) (f : Addr) (cdv : Value) (A : Around) (outer : List Env) (st : Shared) (H : Hp) (E : XK) (hr : Room k (A.deeper (envOfC "_law_pick" (defScope st_law_pick) st.heap.objs.size f cdv))) :
    PDSs (cxOf (L2.CX P w) P w K mg base ["_law_bag_here", "_law_some"] "_law_pick" (defScope st_law_pick) f cdv A outer st H E) E (defBody st_law_pick) (T_law_pick s_law_draw) :=
  (pdss_one (pds_ret (pd_ix (pd_var (pv 1)) (pd_cal c_law_draw m_law_draw hr (by rfl) (pda_cons (pd_var (pv 0)) (pda_cons (pd_callB call_len cd_len m_len (by rfl) B.b_len PySem.boot_len (pda_cons (pd_var (pv 1)) pda_nil)) pda_nil))) (fun _ _ => rfl))))

/-! ### _law_same -/
abbrev st_law_same : Stmt := top 20
theorem sc_law_same : FnScope ["_law_found", "_law_due", "_law_x", "_law_y"] ["_law_found", "_law_due"] (defScope st_law_same) := ⟨rfl, rfl, rfl, by decide +kernel, rfl, by decide +kernel, by decide +kernel⟩
def T_law_same (s_law_same : SpD) : TDS :=
  (sSeq (sIf (dTru (dCB bIsi (aCons (dVar 1) (aCons (dTup (aCons (dC (.ty "list")) (aCons (dC (.ty "tuple")) aNil))) aNil))))
  (sSeq (sIf (dOr (dTest (dOp oNe (dCB bIsi (aCons (dVar 0) (aCons (dC (.ty "list")) aNil))) (dCB bIsi (aCons (dVar 1) (aCons (dC (.ty "list")) aNil))))) (dTest (dOp oNe (dCB bIsi (aCons (dVar 0) (aCons (dC (.ty "tuple")) aNil))) (dCB bIsi (aCons (dVar 1) (aCons (dC (.ty "tuple")) aNil))))))
  (sRet (dC (.bl false))) sNext)
  (sRet (dAndV (dOp oEq (dCB bLen (aCons (dVar 0) aNil)) (dCB bLen (aCons (dVar 1) aNil))) (dCB bAll (aCons (dNew (fLc (iZip2 (aCons (dVar 0) (aCons (dVar 1) aNil))) (.tup [(.nm 2), (.nm 3)]) tAll (dCall 2 s_law_same [] (aCons (dVar 2) (aCons (dVar 3) aNil))) [2, 3])) aNil))))) sNext)
  (sSeq (sIf (dTru (dCB bIsi (aCons (dVar 0) (aCons (dTup (aCons (dC (.ty "list")) (aCons (dC (.ty "tuple")) aNil))) aNil))))
  (sRet (dC (.bl false))) sNext)
  (sSeq (sIf (dOr (dTest (dOp oIs (dVar 1) (dC .non))) (dTest (dOp oIs (dVar 0) (dC .non))))
  (sRet (dAndV (dOp oIs (dVar 1) (dC .non)) (dOp oIs (dVar 0) (dC .non)))) sNext)
  (sSeq (sIf (dOr (dTru (dCB bIsi (aCons (dVar 1) (aCons (dC (.ty "bool")) aNil)))) (dTru (dCB bIsi (aCons (dVar 0) (aCons (dC (.ty "bool")) aNil)))))
  (sRet (dAndV (dCB bIsi (aCons (dVar 1) (aCons (dC (.ty "bool")) aNil))) (dAndV (dCB bIsi (aCons (dVar 0) (aCons (dC (.ty "bool")) aNil))) (dOp oEq (dVar 0) (dVar 1))))) sNext)
  (sSeq (sIf (dOr (dTru (dCB bIsi (aCons (dVar 1) (aCons (dC (.ty "int")) aNil)))) (dTru (dCB bIsi (aCons (dVar 0) (aCons (dC (.ty "int")) aNil)))))
  (sRet (dAndV (dCB bIsi (aCons (dVar 1) (aCons (dC (.ty "int")) aNil))) (dAndV (dCB bIsi (aCons (dVar 0) (aCons (dC (.ty "int")) aNil))) (dOp oEq (dVar 0) (dVar 1))))) sNext)
  (sSeq (sIf (dOr (dTru (dCB bIsi (aCons (dVar 1) (aCons (dC (.ty "str")) aNil)))) (dTru (dCB bIsi (aCons (dVar 0) (aCons (dC (.ty "str")) aNil)))))
  (sRet (dAndV (dCB bIsi (aCons (dVar 1) (aCons (dC (.ty "str")) aNil))) (dAndV (dCB bIsi (aCons (dVar 0) (aCons (dC (.ty "str")) aNil))) (dOp oEq (dVar 0) (dVar 1))))) sNext)
  (sRet (dOp oEq (dVar 0) (dVar 1)))))))))
theorem body_law_same {P : Program} {w : World} {K : PySem.W.Frag} {mg : Str → Option Value} {base : Heap} {k : Nat} {s_law_same : SpD} (m_law_same : MonoSp s_law_same) (c_law_same : Cal P w K mg base "_law_same" k 2 s_law_same) (B : Bu mg) (f : Addr) (cdv : Value) (A : Around) (outer : List Env) (st : Shared) (H : Hp) (E : XK) (hr : Room k (A.deeper (envOfC "_law_same" (defScope st_law_same) st.heap.objs.size f cdv))) :
    PDSs (cxOf (L2.CX P w) P w K mg base ["_law_found", "_law_due", "_law_x", "_law_y"] "_law_same" (defScope st_law_same) f cdv A outer st H E) E (defBody st_law_same) (T_law_same s_law_same) :=
  (pdss_cons (pds_if (pdt_truth (pd_callB (call_isi.or (call_isiT.or call_isiK)) cd_isi m_isi (by rfl) B.b_isinstance boot_isinstance (pda_cons (pd_var (pv 1)) (pda_cons (pd_tup (pda_cons (pd_blt (by rfl) B.b_list boot_list) (pda_cons (pd_blt (by rfl) B.b_tuple boot_tuple) pda_nil))) pda_nil))))
  (pdss_cons (pds_if (PDW.pt (pdw_or (pdt_ne hr.units (pd_callB (call_isi.or (call_isiT.or call_isiK)) cd_isi m_isi (by rfl) B.b_isinstance boot_isinstance (pda_cons (pd_var (pv 0)) (pda_cons (pd_blt (by rfl) B.b_list boot_list) pda_nil))) (pd_callB (call_isi.or (call_isiT.or call_isiK)) cd_isi m_isi (by rfl) B.b_isinstance boot_isinstance (pda_cons (pd_var (pv 1)) (pda_cons (pd_blt (by rfl) B.b_list boot_list) pda_nil)))) (pdw_or1 (pdt_ne hr.units (pd_callB (call_isi.or (call_isiT.or call_isiK)) cd_isi m_isi (by rfl) B.b_isinstance boot_isinstance (pda_cons (pd_var (pv 0)) (pda_cons (pd_blt (by rfl) B.b_tuple boot_tuple) pda_nil))) (pd_callB (call_isi.or (call_isiT.or call_isiK)) cd_isi m_isi (by rfl) B.b_isinstance boot_isinstance (pda_cons (pd_var (pv 1)) (pda_cons (pd_blt (by rfl) B.b_tuple boot_tuple) pda_nil)))))))
  (pdss_one (pds_ret pd_bl)) pdss_nil)
  (pdss_one (pds_ret (pd_and (pd_eq hr.units (pd_callB call_len cd_len m_len (by rfl) B.b_len PySem.boot_len (pda_cons (pd_var (pv 0)) pda_nil)) (pd_callB call_len cd_len m_len (by rfl) B.b_len PySem.boot_len (pda_cons (pd_var (pv 1)) pda_nil))) (pd_one (pd_callB (cr_all rfl) cd_all m_all (by rfl) B.b_all boot_all (pda_cons (PDF.pd (pdf_lc rfl sc_law_same.nd (pdi_zip (by rfl) B.b_zip (pda_cons (pd_var (pv 0)) (pda_cons (pd_var (pv 1)) pda_nil))) (blkOk_by (own := [("_law_x", 2), ("_law_y", 3)]) (by kernel_rfl)) (fun _ _ _ _ _ => (pgd_tup rfl (pgds_cons (pgd_name (pg_name (i := 2) sc_law_same.nd rfl (by first | exact Or.inl rfl | exact Or.inr rfl))) (pgds_cons (pgd_name (pg_name (i := 3) sc_law_same.nd rfl (by first | exact Or.inl rfl | exact Or.inr rfl))) pgds_nil)) rfl)) (fun _ _ _ _ _ => pdts_nil) (fun _ _ _ _ _ => (pd_cal c_law_same m_law_same hr (by rfl) (pda_cons (pd_var (pv 2)) (pda_cons (pd_var (pv 3)) pda_nil)))))) pda_nil))))))) pdss_nil)
  (pdss_cons (pds_if (pdt_truth (pd_callB (call_isi.or (call_isiT.or call_isiK)) cd_isi m_isi (by rfl) B.b_isinstance boot_isinstance (pda_cons (pd_var (pv 0)) (pda_cons (pd_tup (pda_cons (pd_blt (by rfl) B.b_list boot_list) (pda_cons (pd_blt (by rfl) B.b_tuple boot_tuple) pda_nil))) pda_nil))))
  (pdss_one (pds_ret pd_bl)) pdss_nil)
  (pdss_cons (pds_if (PDW.pt (pdw_or (pdt_is (pd_var (pv 1)) pd_non) (pdw_or1 (pdt_is (pd_var (pv 0)) pd_non))))
  (pdss_one (pds_ret (pd_and (pd_is (pd_var (pv 1)) pd_non) (pd_one (pd_is (pd_var (pv 0)) pd_non))))) pdss_nil)
  (pdss_cons (pds_if (PDW.pt (pdw_or (pdt_truth (pd_callB (call_isi.or (call_isiT.or call_isiK)) cd_isi m_isi (by rfl) B.b_isinstance boot_isinstance (pda_cons (pd_var (pv 1)) (pda_cons (pd_blt (by rfl) B.b_bool boot_bool) pda_nil)))) (pdw_or1 (pdt_truth (pd_callB (call_isi.or (call_isiT.or call_isiK)) cd_isi m_isi (by rfl) B.b_isinstance boot_isinstance (pda_cons (pd_var (pv 0)) (pda_cons (pd_blt (by rfl) B.b_bool boot_bool) pda_nil)))))))
  (pdss_one (pds_ret (pd_and (pd_callB (call_isi.or (call_isiT.or call_isiK)) cd_isi m_isi (by rfl) B.b_isinstance boot_isinstance (pda_cons (pd_var (pv 1)) (pda_cons (pd_blt (by rfl) B.b_bool boot_bool) pda_nil))) (pd_and (pd_callB (call_isi.or (call_isiT.or call_isiK)) cd_isi m_isi (by rfl) B.b_isinstance boot_isinstance (pda_cons (pd_var (pv 0)) (pda_cons (pd_blt (by rfl) B.b_bool boot_bool) pda_nil))) (pd_one (pd_eq hr.units (pd_var (pv 0)) (pd_var (pv 1)))))))) pdss_nil)
  (pdss_cons (pds_if (PDW.pt (pdw_or (pdt_truth (pd_callB (call_isi.or (call_isiT.or call_isiK)) cd_isi m_isi (by rfl) B.b_isinstance boot_isinstance (pda_cons (pd_var (pv 1)) (pda_cons (pd_blt (by rfl) B.b_int boot_int) pda_nil)))) (pdw_or1 (pdt_truth (pd_callB (call_isi.or (call_isiT.or call_isiK)) cd_isi m_isi (by rfl) B.b_isinstance boot_isinstance (pda_cons (pd_var (pv 0)) (pda_cons (pd_blt (by rfl) B.b_int boot_int) pda_nil)))))))
  (pdss_one (pds_ret (pd_and (pd_callB (call_isi.or (call_isiT.or call_isiK)) cd_isi m_isi (by rfl) B.b_isinstance boot_isinstance (pda_cons (pd_var (pv 1)) (pda_cons (pd_blt (by rfl) B.b_int boot_int) pda_nil))) (pd_and (pd_callB (call_isi.or (call_isiT.or call_isiK)) cd_isi m_isi (by rfl) B.b_isinstance boot_isinstance (pda_cons (pd_var (pv 0)) (pda_cons (pd_blt (by rfl) B.b_int boot_int) pda_nil))) (pd_one (pd_eq hr.units (pd_var (pv 0)) (pd_var (pv 1)))))))) pdss_nil)
  (pdss_cons (pds_if (PDW.pt (pdw_or (pdt_truth (pd_callB (call_isi.or (call_isiT.or call_isiK)) cd_isi m_isi (by rfl) B.b_isinstance boot_isinstance (pda_cons (pd_var (pv 1)) (pda_cons (pd_blt (by rfl) B.b_str boot_str) pda_nil)))) (pdw_or1 (pdt_truth (pd_callB (call_isi.or (call_isiT.or call_isiK)) cd_isi m_isi (by rfl) B.b_isinstance boot_isinstance (pda_cons (pd_var (pv 0)) (pda_cons (pd_blt (by rfl) B.b_str boot_str) pda_nil)))))))
  (pdss_one (pds_ret (pd_and (pd_callB (call_isi.or (call_isiT.or call_isiK)) cd_isi m_isi (by rfl) B.b_isinstance boot_isinstance (pda_cons (pd_var (pv 1)) (pda_cons (pd_blt (by rfl) B.b_str boot_str) pda_nil))) (pd_and (pd_callB (call_isi.or (call_isiT.or call_isiK)) cd_isi m_isi (by rfl) B.b_isinstance boot_isinstance (pda_cons (pd_var (pv 0)) (pda_cons (pd_blt (by rfl) B.b_str boot_str) pda_nil))) (pd_one (pd_eq hr.units (pd_var (pv 0)) (pd_var (pv 1)))))))) pdss_nil)
  (pdss_one (pds_ret (pd_eq hr.units (pd_var (pv 0)) (pd_var (pv 1)))))))))))

/-! ### _law_is_whole -/
abbrev st_law_is_whole : Stmt := top 21
theorem sc_law_is_whole : FnScope ["_law_v"] ["_law_v"] (defScope st_law_is_whole) := ⟨rfl, rfl, rfl, by decide +kernel, rfl, by decide +kernel, by decide +kernel⟩
def T_law_is_whole : TDS :=
  (sRet (dAndV (dCB bIsi (aCons (dVar 0) (aCons (dC (.ty "int")) aNil))) (dNotV (dCB bIsi (aCons (dVar 0) (aCons (dC (.ty "bool")) aNil))))))
theorem body_law_is_whole {P : Program} {w : World} {K : PySem.W.Frag} {mg : Str → Option Value} {base : Heap} {k : Nat} (B : Bu mg) (f : Addr) (cdv : Value) (A : Around) (outer : List Env) (st : Shared) (H : Hp) (E : XK) (hr : Room k (A.deeper (envOfC "_law_is_whole" (defScope st_law_is_whole) st.heap.objs.size f cdv))) :
    PDSs (cxOf (L2.CX P w) P w K mg base ["_law_v"] "_law_is_whole" (defScope st_law_is_whole) f cdv A outer st H E) E (defBody st_law_is_whole) (T_law_is_whole) :=
  (pdss_one (pds_ret (pd_and (pd_callB (call_isi.or (call_isiT.or call_isiK)) cd_isi m_isi (by rfl) B.b_isinstance boot_isinstance (pda_cons (pd_var (pv 0)) (pda_cons (pd_blt (by rfl) B.b_int boot_int) pda_nil))) (pd_one (pd_not (pd_callB (call_isi.or (call_isiT.or call_isiK)) cd_isi m_isi (by rfl) B.b_isinstance boot_isinstance (pda_cons (pd_var (pv 0)) (pda_cons (pd_blt (by rfl) B.b_bool boot_bool) pda_nil))))))))

/-! ### _law_common -/
abbrev st_law_common : Stmt := top 22
theorem sc_law_common : FnScope ["_law_p", "_law_q", "_law_x", "_law_y"] ["_law_p", "_law_q"] (defScope st_law_common) := ⟨rfl, rfl, rfl, by decide +kernel, rfl, by decide +kernel, by decide +kernel⟩
def T_law_common : TDS :=
  (sSeq (sPar [2, 3] (aCons (dCB bAbs (aCons (dVar 0) aNil)) (aCons (dCB bAbs (aCons (dVar 1) aNil)) aNil)))
  (sSeq (sWhile (dTest (dOp oGt (dVar 3) (dC (.int 0))))
  (sPar [2, 3] (aCons (dVar 3) (aCons (dOp oMod (dCB bInt (aCons (dVar 2) aNil)) (dVar 3)) aNil))))
  (sRet (dVar 2))))
theorem body_law_common {P : Program} {w : World} {K : PySem.W.Frag} {mg : Str → Option Value} {base : Heap} {k : Nat} (B : Bu mg) (f : Addr) (cdv : Value) (A : Around) (outer : List Env) (st : Shared) (H : Hp) (E : XK) (hr : Room k (A.deeper (envOfC "_law_common" (defScope st_law_common) st.heap.objs.size f cdv))) :
    PDSs (cxOf (L2.CX P w) P w K mg base ["_law_p", "_law_q", "_law_x", "_law_y"] "_law_common" (defScope st_law_common) f cdv A outer st H E) E (defBody st_law_common) (T_law_common) :=
  (pdss_cons (pds_par (pda_cons (pd_callB call_abs cd_abs m_abs (by rfl) B.b_abs boot_abs (pda_cons (pd_var (pv 0)) pda_nil)) (pda_cons (pd_callB call_abs cd_abs m_abs (by rfl) B.b_abs boot_abs (pda_cons (pd_var (pv 1)) pda_nil)) pda_nil)) (fun h => ps_par (i := 2) (j := 3) rfl sc_law_common.nd rfl rfl (by decide) rfl rfl h (by rfl)))
  (pdss_cons (pds_while (passes_of rfl) (pdt_gt (pd_var (pv 3)) pd_int)
  (pdss_one (pds_par (pda_cons (pd_var (pv 3)) (pda_cons (pd_mod (pd_callTy call_int1 cd_int m_int (by rfl) B.b_int boot_int (pda_cons (pd_var (pv 2)) pda_nil)) (pd_var (pv 3))) pda_nil)) (fun h => ps_par (i := 2) (j := 3) rfl sc_law_common.nd rfl rfl (by decide) rfl rfl h (by rfl)))))
  (pdss_one (pds_ret (pd_var (pv 2))))))

/-! ### _law_low -/
abbrev st_law_low : Stmt := top 23
theorem sc_law_low : FnScope ["_law_p", "_law_q", "_law_part"] ["_law_p", "_law_q"] (defScope st_law_low) := ⟨rfl, rfl, rfl, by decide +kernel, rfl, by decide +kernel, by decide +kernel⟩
def T_law_low (s_law_common : SpD) : TDS :=
  (sSeq (sSet 2 (dCall 2 s_law_common [] (aCons (dVar 0) (aCons (dVar 1) aNil))))
  (sSeq (sIf (dTest (dOp oLt (dVar 1) (dC (.int 0))))
  (sSet 2 (dOp oSub (dC (.int 0)) (dVar 2))) sNext)
  (sRet (dTup (aCons (dOp oDiv (dVar 0) (dVar 2)) (aCons (dOp oDiv (dVar 1) (dVar 2)) aNil))))))
theorem body_law_low {P : Program} {w : World} {K : PySem.W.Frag} {mg : Str → Option Value} {base : Heap} {k : Nat} {s_law_common : SpD} (m_law_common : MonoSp s_law_common) (c_law_common : Cal P w K mg base "_law_common" k 2 s_law_common) (B : Bu mg) (f : Addr) (cdv : Value) (A : Around) (outer : List Env) (st : Shared) (H : Hp) (E : XK) (hr : Room k (A.deeper (envOfC "_law_low" (defScope st_law_low) st.heap.objs.size f cdv))) :
    PDSs (cxOf (L2.CX P w) P w K mg base ["_law_p", "_law_q", "_law_part"] "_law_low" (defScope st_law_low) f cdv A outer st H E) E (defBody st_law_low) (T_law_low s_law_common) :=
  (pdss_cons (pds_set (pd_cal c_law_common m_law_common hr (by rfl) (pda_cons (pd_var (pv 0)) (pda_cons (pd_var (pv 1)) pda_nil))) (fun h => ps_set (i := 2) sc_law_low.nd rfl (Or.inl rfl) h))
  (pdss_cons (pds_if (pdt_lt (pd_var (pv 1)) pd_int)
  (pdss_one (pds_set (pd_sub pd_int (pd_var (pv 2))) (fun h => ps_set (i := 2) sc_law_low.nd rfl (Or.inl rfl) h))) pdss_nil)
  (pdss_one (pds_ret (pd_tup (pda_cons (pd_fdiv (pd_var (pv 0)) (pd_var (pv 2))) (pda_cons (pd_fdiv (pd_var (pv 1)) (pd_var (pv 2))) pda_nil)))))))

/-! ### _law_plus -/
abbrev st_law_plus : Stmt := top 24
theorem sc_law_plus : FnScope ["_law_x", "_law_y"] ["_law_x", "_law_y"] (defScope st_law_plus) := ⟨rfl, rfl, rfl, by decide +kernel, rfl, by decide +kernel, by decide +kernel⟩
def T_law_plus (s_law_low : SpD) : TDS :=
  (sRet (dCall 2 s_law_low [] (aCons (dOp oAdd (dOp oMulA (dOp oIx (dVar 0) (dC (.int 0))) (dOp oIx (dVar 1) (dC (.int 1)))) (dOp oMulA (dOp oIx (dVar 1) (dC (.int 0))) (dOp oIx (dVar 0) (dC (.int 1))))) (aCons (dOp oMulA (dOp oIx (dVar 0) (dC (.int 1))) (dOp oIx (dVar 1) (dC (.int 1)))) aNil))))
theorem body_law_plus {P : Program} {w : World} {K : PySem.W.Frag} {mg : Str → Option Value} {base : Heap} {k : Nat} {s_law_low : SpD} (m_law_low : MonoSp s_law_low) (c_law_low : Cal P w K mg base "_law_low" k 2 s_law_low) (B : Bu mg) (f : Addr) (cdv : Value) (A : Around) (outer : List Env) (st : Shared) (H : Hp) (E : XK) (hr : Room k (A.deeper (envOfC "_law_plus" (defScope st_law_plus) st.heap.objs.size f cdv))) :
    PDSs (cxOf (L2.CX P w) P w K mg base ["_law_x", "_law_y"] "_law_plus" (defScope st_law_plus) f cdv A outer st H E) E (defBody st_law_plus) (T_law_plus s_law_low) :=
  (pdss_one (pds_ret (pd_cal c_law_low m_law_low hr (by rfl) (pda_cons (pd_add (pd_mul (pd_ix (pd_var (pv 0)) pd_int (fun _ _ => rfl)) (pd_ix (pd_var (pv 1)) pd_int (fun _ _ => rfl))) (pd_mul (pd_ix (pd_var (pv 1)) pd_int (fun _ _ => rfl)) (pd_ix (pd_var (pv 0)) pd_int (fun _ _ => rfl)))) (pda_cons (pd_mul (pd_ix (pd_var (pv 0)) pd_int (fun _ _ => rfl)) (pd_ix (pd_var (pv 1)) pd_int (fun _ _ => rfl))) pda_nil)))))

/-! ### _law_times -/
abbrev st_law_times : Stmt := top 25
theorem sc_law_times : FnScope ["_law_x", "_law_y"] ["_law_x", "_law_y"] (defScope st_law_times) := ⟨rfl, rfl, rfl, by decide +kernel, rfl, by decide +kernel, by decide +kernel⟩
def T_law_times (s_law_low : SpD) : TDS :=
  (sRet (dCall 2 s_law_low [] (aCons (dOp oMulA (dOp oIx (dVar 0) (dC (.int 0))) (dOp oIx (dVar 1) (dC (.int 0)))) (aCons (dOp oMulA (dOp oIx (dVar 0) (dC (.int 1))) (dOp oIx (dVar 1) (dC (.int 1)))) aNil))))
theorem body_law_times {P : Program} {w : World} {K : PySem.W.Frag} {mg : Str → Option Value} {base : Heap} {k : Nat} {s_law_low : SpD} (m_law_low : MonoSp s_law_low) (c_law_low : Cal P w K mg base "_law_low" k 2 s_law_low) (B : Bu mg) (f : Addr) (cdv : Value) (A : Around) (outer : List Env) (st : Shared) (H : Hp) (E : XK) (hr : Room k (A.deeper (envOfC "_law_times" (defScope st_law_times) st.heap.objs.size f cdv))) :
    PDSs (cxOf (L2.CX P w) P w K mg base ["_law_x", "_law_y"] "_law_times" (defScope st_law_times) f cdv A outer st H E) E (defBody st_law_times) (T_law_times s_law_low) :=
  (pdss_one (pds_ret (pd_cal c_law_low m_law_low hr (by rfl) (pda_cons (pd_mul (pd_ix (pd_var (pv 0)) pd_int (fun _ _ => rfl)) (pd_ix (pd_var (pv 1)) pd_int (fun _ _ => rfl))) (pda_cons (pd_mul (pd_ix (pd_var (pv 0)) pd_int (fun _ _ => rfl)) (pd_ix (pd_var (pv 1)) pd_int (fun _ _ => rfl))) pda_nil)))))

/-! ### _law_dot -/
abbrev st_law_dot : Stmt := top 26
theorem sc_law_dot : FnScope ["_law_xs", "_law_ys", "_law_p", "_law_q", "_law_x", "_law_y"] ["_law_xs", "_law_ys"] (defScope st_law_dot) := ⟨rfl, rfl, rfl, by decide +kernel, rfl, by decide +kernel, by decide +kernel⟩
def T_law_dot (s_law_low : SpD) : TDS :=
  (sSeq (sAsg (.tup [(.nm 2), (.nm 3)]) (dTup (aCons (dC (.int 0)) (aCons (dC (.int 1)) aNil))))
  (sSeq (sFor (iZip2 (aCons (dVar 0) (aCons (dVar 1) aNil))) (.tup [(.nm 4), (.nm 5)])
  (sPar [2, 3] (aCons (dOp oAdd (dOp oMulA (dOp oMulA (dVar 2) (dOp oIx (dVar 4) (dC (.int 1)))) (dOp oIx (dVar 5) (dC (.int 1)))) (dOp oMulA (dOp oMulA (dOp oIx (dVar 4) (dC (.int 0))) (dOp oIx (dVar 5) (dC (.int 0)))) (dVar 3))) (aCons (dOp oMulA (dOp oMulA (dVar 3) (dOp oIx (dVar 4) (dC (.int 1)))) (dOp oIx (dVar 5) (dC (.int 1)))) aNil))))
  (sRet (dCall 2 s_law_low [] (aCons (dVar 2) (aCons (dVar 3) aNil))))))
theorem body_law_dot {P : Program} {w : World} {K : PySem.W.Frag} {mg : Str → Option Value} {base : Heap} {k : Nat} {s_law_low : SpD} (m_law_low : MonoSp s_law_low) (c_law_low : Cal P w K mg base "_law_low" k 2 s_law_low) (B : Bu mg) (f : Addr) (cdv : Value) (A : Around) (outer : List Env) (st : Shared) (H : Hp) (E : XK) (hr : Room k (A.deeper (envOfC "_law_dot" (defScope st_law_dot) st.heap.objs.size f cdv))) :
    PDSs (cxOf (L2.CX P w) P w K mg base ["_law_xs", "_law_ys", "_law_p", "_law_q", "_law_x", "_law_y"] "_law_dot" (defScope st_law_dot) f cdv A outer st H E) E (defBody st_law_dot) (T_law_dot s_law_low) :=
  (pdss_cons (pds_asg (pd_tup (pda_cons pd_int (pda_cons pd_int pda_nil))) (fun h => ps_asg h (pgd_tup rfl (pgds_cons (pgd_name (pg_name (i := 2) sc_law_dot.nd rfl (Or.inl rfl))) (pgds_cons (pgd_name (pg_name (i := 3) sc_law_dot.nd rfl (Or.inl rfl))) pgds_nil)) rfl)))
  (pdss_cons (pds_for (passes_of rfl) rfl (pdi_zip (by rfl) B.b_zip (pda_cons (pd_var (pv 0)) (pda_cons (pd_var (pv 1)) pda_nil))) (pgd_tup rfl (pgds_cons (pgd_name (pg_name (i := 4) sc_law_dot.nd rfl (Or.inl rfl))) (pgds_cons (pgd_name (pg_name (i := 5) sc_law_dot.nd rfl (Or.inl rfl))) pgds_nil)) rfl)
  (pdss_one (pds_par (pda_cons (pd_add (pd_mul (pd_mul (pd_var (pv 2)) (pd_ix (pd_var (pv 4)) pd_int (fun _ _ => rfl))) (pd_ix (pd_var (pv 5)) pd_int (fun _ _ => rfl))) (pd_mul (pd_mul (pd_ix (pd_var (pv 4)) pd_int (fun _ _ => rfl)) (pd_ix (pd_var (pv 5)) pd_int (fun _ _ => rfl))) (pd_var (pv 3)))) (pda_cons (pd_mul (pd_mul (pd_var (pv 3)) (pd_ix (pd_var (pv 4)) pd_int (fun _ _ => rfl))) (pd_ix (pd_var (pv 5)) pd_int (fun _ _ => rfl))) pda_nil)) (fun h => ps_par (i := 2) (j := 3) rfl sc_law_dot.nd rfl rfl (by decide) rfl rfl h (by rfl)))))
  (pdss_one (pds_ret (pd_cal c_law_low m_law_low hr (by rfl) (pda_cons (pd_var (pv 2)) (pda_cons (pd_var (pv 3)) pda_nil)))))))

/-! ### _law_small -/
abbrev st_law_small : Stmt := top 27
theorem sc_law_small : FnScope ["_law_bag_here"] ["_law_bag_here"] (defScope st_law_small) := ⟨rfl, rfl, rfl, by decide +kernel, rfl, by decide +kernel, by decide +kernel⟩
def T_law_small (s_law_draw : SpD) (s_law_low : SpD) (s_law_pick : SpD) : TDS :=
  (sRet (dCall 2 s_law_low [] (aCons (dOp oSub (dCall 2 s_law_draw [] (aCons (dVar 0) (aCons (dC (.int 19)) aNil))) (dC (.int 9))) (aCons (dCall 2 s_law_pick [] (aCons (dVar 0) (aCons (dNew (fLst (aCons (dC (.int 1)) (aCons (dC (.int 1)) (aCons (dC (.int 1)) (aCons (dC (.int 2)) (aCons (dC (.int 3)) (aCons (dC (.int 4)) aNil)))))))) aNil))) aNil))))
theorem body_law_small {P : Program} {w : World} {K : PySem.W.Frag} {mg : Str → Option Value} {base : Heap} {k : Nat} {s_law_draw : SpD} {s_law_low : SpD} {s_law_pick : SpD} (m_law_draw : MonoSp s_law_draw) (m_law_low : MonoSp s_law_low) (m_law_pick : MonoSp s_law_pick) (c_law_pick : Cal P w K mg base "_law_pick" k 2 s_law_pick) (c_law_draw : Cal P w K mg base "_law_draw" k 2 s_law_draw) (c_law_low : Cal P w K mg base "_law_low" k 2 s_law_low) (B : Bu mg) (f : Addr) (cdv : Value) (A : Around) (outer : List Env) (st : Shared) (H : Hp) (E : XK) (hr : Room k (A.deeper (envOfC "_law_small" (defScope st_law_small) st.heap.objs.size f cdv))) :
    PDSs (cxOf (L2.CX P w) P w K mg base ["_law_bag_here"] "_law_small" (defScope st_law_small) f cdv A outer st H E) E (defBody st_law_small) (T_law_small s_law_draw s_law_low s_law_pick) :=
  (pdss_one (pds_ret (pd_cal c_law_low m_law_low hr (by rfl) (pda_cons (pd_sub (pd_cal c_law_draw m_law_draw hr (by rfl) (pda_cons (pd_var (pv 0)) (pda_cons pd_int pda_nil))) pd_int) (pda_cons (pd_cal c_law_pick m_law_pick hr (by rfl) (pda_cons (pd_var (pv 0)) (pda_cons (PDF.pd (pdf_lst (pda_cons pd_int (pda_cons pd_int (pda_cons pd_int (pda_cons pd_int (pda_cons pd_int (pda_cons pd_int pda_nil)))))))) pda_nil))) pda_nil)))))

/-! ### _law_fraction -/
abbrev st_law_fraction : Stmt := top 28
theorem sc_law_fraction : FnScope ["_law_bag_here", "_law_size"] ["_law_bag_here"] (defScope st_law_fraction) := ⟨rfl, rfl, rfl, by decide +kernel, rfl, by decide +kernel, by decide +kernel⟩
def T_law_fraction (s_law_draw : SpD) (s_law_low : SpD) (s_law_pick : SpD) : TDS :=
  (sSeq (sSet 1 (dCall 2 s_law_pick [] (aCons (dVar 0) (aCons (dNew (fLst (aCons (dC (.int 1)) (aCons (dC (.int 2)) (aCons (dC (.int 3)) (aCons (dC (.int 5)) (aCons (dC (.int 9)) (aCons (dC (.int 30)) (aCons (dC (.int 999)) (aCons (dC (.int 999999999)) aNil)))))))))) aNil))))
  (sRet (dCall 2 s_law_low [] (aCons (dOp oSub (dCall 2 s_law_draw [] (aCons (dVar 0) (aCons (dOp oAdd (dOp oMulA (dC (.int 2)) (dVar 1)) (dC (.int 1))) aNil))) (dVar 1)) (aCons (dOp oAdd (dC (.int 1)) (dCall 2 s_law_draw [] (aCons (dVar 0) (aCons (dCall 2 s_law_pick [] (aCons (dVar 0) (aCons (dNew (fLst (aCons (dC (.int 1)) (aCons (dC (.int 1)) (aCons (dC (.int 1)) (aCons (dC (.int 2)) (aCons (dC (.int 3)) (aCons (dVar 1) aNil)))))))) aNil))) aNil)))) aNil)))))
theorem body_law_fraction {P : Program} {w : World} {K : PySem.W.Frag} {mg : Str → Option Value} {base : Heap} {k : Nat} {s_law_draw : SpD} {s_law_low : SpD} {s_law_pick : SpD} (m_law_draw : MonoSp s_law_draw) (m_law_low : MonoSp s_law_low) (m_law_pick : MonoSp s_law_pick) (c_law_pick : Cal P w K mg base "_law_pick" k 2 s_law_pick) (c_law_draw : Cal P w K mg base "_law_draw" k 2 s_law_draw) (c_law_low : Cal P w K mg base "_law_low" k 2 s_law_low) (B : Bu mg) (f : Addr) (cdv : Value) (A : Around) (outer : List Env) (st : Shared) (H : Hp) (E : XK) (hr : Room k (A.deeper (envOfC "_law_fraction" (defScope st_law_fraction) st.heap.objs.size f cdv))) :
    PDSs (cxOf (L2.CX P w) P w K mg base ["_law_bag_here", "_law_size"] "_law_fraction" (defScope st_law_fraction) f cdv A outer st H E) E (defBody st_law_fraction) (T_law_fraction s_law_draw s_law_low s_law_pick) :=
  (pdss_cons (pds_set (pd_cal c_law_pick m_law_pick hr (by rfl) (pda_cons (pd_var (pv 0)) (pda_cons (PDF.pd (pdf_lst (pda_cons pd_int (pda_cons pd_int (pda_cons pd_int (pda_cons pd_int (pda_cons pd_int (pda_cons pd_int (pda_cons pd_int (pda_cons pd_int pda_nil)))))))))) pda_nil))) (fun h => ps_set (i := 1) sc_law_fraction.nd rfl (Or.inl rfl) h))
  (pdss_one (pds_ret (pd_cal c_law_low m_law_low hr (by rfl) (pda_cons (pd_sub (pd_cal c_law_draw m_law_draw hr (by rfl) (pda_cons (pd_var (pv 0)) (pda_cons (pd_add (pd_mul pd_int (pd_var (pv 1))) pd_int) pda_nil))) (pd_var (pv 1))) (pda_cons (pd_add pd_int (pd_cal c_law_draw m_law_draw hr (by rfl) (pda_cons (pd_var (pv 0)) (pda_cons (pd_cal c_law_pick m_law_pick hr (by rfl) (pda_cons (pd_var (pv 0)) (pda_cons (PDF.pd (pdf_lst (pda_cons pd_int (pda_cons pd_int (pda_cons pd_int (pda_cons pd_int (pda_cons pd_int (pda_cons (pd_var (pv 1)) pda_nil)))))))) pda_nil))) pda_nil)))) pda_nil))))))

/-! ### _law_row -/
abbrev st_law_row : Stmt := top 29
theorem sc_law_row : FnScope ["_law_bag_here", "_law_size", "_law_way", "_law_k", "_law_far", "_law_some", "_law_i"] ["_law_bag_here", "_law_size"] (defScope st_law_row) := ⟨rfl, rfl, rfl, by decide +kernel, rfl, by decide +kernel, by decide +kernel⟩
def T_law_row (s_law_draw : SpD) (s_law_fraction : SpD) (s_law_small : SpD) : TDS :=
  (sSeq (sSet 2 (dCall 2 s_law_draw [] (aCons (dVar 0) (aCons (dC (.int 8)) aNil))))
  (sSeq (sIf (dTest (dOp oEq (dVar 2) (dC (.int 0))))
  (sRet (dCB bTuple (aCons (dNew (fLc (iRange1 (aCons (dVar 1) aNil)) (.nm 3) tAll (dTup (aCons (dC (.int 0)) (aCons (dC (.int 1)) aNil))) [3])) aNil))) sNext)
  (sSeq (sSet 4 (dOp oEq (dCall 2 s_law_draw [] (aCons (dVar 0) (aCons (dC (.int 6)) aNil))) (dC (.int 0))))
  (sSeq (sSet 5 (dNew (fLc (iRange1 (aCons (dVar 1) aNil)) (.nm 3) tAll (dIf (dTru (dVar 4)) (dCall 1 s_law_fraction [] (aCons (dVar 0) aNil)) (dCall 1 s_law_small [] (aCons (dVar 0) aNil))) [3])))
  (sSeq (sIf (dAnd (dTest (dOp oEq (dVar 2) (dC (.int 1)))) (dTest (dOp oGt (dVar 1) (dC (.int 0)))))
  (sSeq (sSet 3 (dCall 2 s_law_draw [] (aCons (dVar 0) (aCons (dVar 1) aNil))))
  (sSet 5 (dNew (fLc (iRange1 (aCons (dVar 1) aNil)) (.nm 6) tAll (dIf (dTest (dOp oEq (dVar 6) (dVar 3))) (dOp oIx (dVar 5) (dVar 6)) (dTup (aCons (dC (.int 0)) (aCons (dC (.int 1)) aNil)))) [6])))) sNext)
  (sRet (dCB bTuple (aCons (dVar 5) aNil))))))))
theorem body_law_row {P : Program} {w : World} {K : PySem.W.Frag} {mg : Str → Option Value} {base : Heap} {k : Nat} {s_law_draw : SpD} {s_law_fraction : SpD} {s_law_small : SpD} (m_law_draw : MonoSp s_law_draw) (m_law_fraction : MonoSp s_law_fraction) (m_law_small : MonoSp s_law_small) (c_law_draw : Cal P w K mg base "_law_draw" k 2 s_law_draw) (c_law_fraction : Cal P w K mg base "_law_fraction" k 1 s_law_fraction) (c_law_small : Cal P w K mg base "_law_small" k 1 s_law_small) (B : Bu mg) (f : Addr) (cdv : Value) (A : Around) (outer : List Env) (st : Shared) (H : Hp) (E : XK) (hr : Room k (A.deeper (envOfC "_law_row" (defScope st_law_row) st.heap.objs.size f cdv))) :
    PDSs (cxOf (L2.CX P w) P w K mg base ["_law_bag_here", "_law_size", "_law_way", "_law_k", "_law_far", "_law_some", "_law_i"] "_law_row" (defScope st_law_row) f cdv A outer st H E) E (defBody st_law_row) (T_law_row s_law_draw s_law_fraction s_law_small) :=
  (pdss_cons (pds_set (pd_cal c_law_draw m_law_draw hr (by rfl) (pda_cons (pd_var (pv 0)) (pda_cons pd_int pda_nil))) (fun h => ps_set (i := 2) sc_law_row.nd rfl (Or.inl rfl) h))
  (pdss_cons (pds_if (pdt_eq hr.units (pd_var (pv 2)) pd_int)
  (pdss_one (pds_ret (pd_callTy call_tuple_of cd_tuple m_tuple (by rfl) B.b_tuple boot_tuple (pda_cons (PDF.pd (pdf_lc rfl sc_law_row.nd (pdi_range1 (by rfl) B.b_range (pda_cons (pd_var (pv 1)) pda_nil)) (blkOk_by (own := [("_law_k", 3)]) (by kernel_rfl)) (fun _ _ _ _ _ => (pgd_name (pg_name (i := 3) sc_law_row.nd rfl (by first | exact Or.inl rfl | exact Or.inr rfl)))) (fun _ _ _ _ _ => pdts_nil) (fun _ _ _ _ _ => (pd_tup (pda_cons pd_int (pda_cons pd_int pda_nil)))))) pda_nil)))) pdss_nil)
  (pdss_cons (pds_set (pd_eq hr.units (pd_cal c_law_draw m_law_draw hr (by rfl) (pda_cons (pd_var (pv 0)) (pda_cons pd_int pda_nil))) pd_int) (fun h => ps_set (i := 4) sc_law_row.nd rfl (Or.inr rfl) h))
  (pdss_cons (pds_set (PDF.pd (pdf_lc rfl sc_law_row.nd (pdi_range1 (by rfl) B.b_range (pda_cons (pd_var (pv 1)) pda_nil)) (blkOk_by (own := [("_law_k", 3)]) (by kernel_rfl)) (fun _ _ _ _ _ => (pgd_name (pg_name (i := 3) sc_law_row.nd rfl (by first | exact Or.inl rfl | exact Or.inr rfl)))) (fun _ _ _ _ _ => pdts_nil) (fun _ _ _ _ _ => (pd_ifExp (pdt_truth (pd_var (pv 4))) (pd_cal c_law_fraction m_law_fraction hr (by rfl) (pda_cons (pd_var (pv 0)) pda_nil)) (pd_cal c_law_small m_law_small hr (by rfl) (pda_cons (pd_var (pv 0)) pda_nil)))))) (fun h => ps_set (i := 5) sc_law_row.nd rfl (Or.inr rfl) h))
  (pdss_cons (pds_if (PDW.pt (pdw_and (pdt_eq hr.units (pd_var (pv 2)) pd_int) (pdw_and1 (pdt_gt (pd_var (pv 1)) pd_int))))
  (pdss_cons (pds_set (pd_cal c_law_draw m_law_draw hr (by rfl) (pda_cons (pd_var (pv 0)) (pda_cons (pd_var (pv 1)) pda_nil))) (fun h => ps_set (i := 3) sc_law_row.nd rfl (Or.inr rfl) h))
  (pdss_one (pds_set (PDF.pd (pdf_lc rfl sc_law_row.nd (pdi_range1 (by rfl) B.b_range (pda_cons (pd_var (pv 1)) pda_nil)) (blkOk_by (own := [("_law_i", 6)]) (by kernel_rfl)) (fun _ _ _ _ _ => (pgd_name (pg_name (i := 6) sc_law_row.nd rfl (by first | exact Or.inl rfl | exact Or.inr rfl)))) (fun _ _ _ _ _ => pdts_nil) (fun _ _ _ _ _ => (pd_ifExp (pdt_eq hr.units (pd_var (pv 6)) (pd_var (pv 3))) (pd_ix (pd_var (pv 5)) (pd_var (pv 6)) (fun _ _ => rfl)) (pd_tup (pda_cons pd_int (pda_cons pd_int pda_nil))))))) (fun h => ps_set (i := 5) sc_law_row.nd rfl (Or.inr rfl) h)))) pdss_nil)
  (pdss_one (pds_ret (pd_callTy call_tuple_of cd_tuple m_tuple (by rfl) B.b_tuple boot_tuple (pda_cons (pd_var (pv 5)) pda_nil)))))))))

/-! ### _law_whole_so -/
abbrev st_law_whole_so : Stmt := top 30
theorem sc_law_whole_so : FnScope ["_law_r", "_law_told", "_law_v", "_law_part", "_law_k", "_law_x", "_law_i"] ["_law_r"] (defScope st_law_whole_so) := ⟨rfl, rfl, rfl, by decide +kernel, rfl, by decide +kernel, by decide +kernel⟩
def T_law_whole_so (s_law_common : SpD) (s_law_is_whole : SpD) (s_whole_row : SpD) : TDS :=
  (sSeq (sSet 1 (dCall 1 s_whole_row [] (aCons (dVar 0) aNil)))
  (sSeq (sIf (dOr (dNot (dTru (dCB bIsi (aCons (dVar 1) (aCons (dC (.ty "tuple")) aNil))))) (dOr (dTest (dOp oNe (dCB bLen (aCons (dVar 1) aNil)) (dCB bLen (aCons (dVar 0) aNil)))) (dNot (dTru (dCB bAll (aCons (dNew (fLc (iItems (dVar 1)) (.nm 2) tAll (dCall 1 s_law_is_whole [] (aCons (dVar 2) aNil)) [2])) aNil))))))
  (sRet (dC (.bl false))) sNext)
  (sSeq (sIf (dTru (dCB bAll (aCons (dNew (fLc (iItems (dVar 0)) (.nm 5) tAll (dOp oEq (dOp oIx (dVar 5) (dC (.int 0))) (dC (.int 0))) [5])) aNil)))
  (sRet (dCB bAll (aCons (dNew (fLc (iItems (dVar 1)) (.nm 2) tAll (dOp oEq (dVar 2) (dC (.int 0))) [2])) aNil))) sNext)
  (sSeq (sSet 3 (dC (.int 0)))
  (sSeq (sFor (iItems (dVar 1)) (.nm 2)
  (sSet 3 (dCall 2 s_law_common [] (aCons (dVar 3) (aCons (dVar 2) aNil)))))
  (sSeq (sSet 4 (dOp oIx (dNew (fLc (iRange1 (aCons (dCB bLen (aCons (dVar 0) aNil)) aNil)) (.nm 6) (dTest (dOp oNe (dOp oIx (dOp oIx (dVar 0) (dVar 6)) (dC (.int 0))) (dC (.int 0)))) (dVar 6) [6])) (dC (.int 0))))
  (sSeq (sIf (dOr (dTest (dOp oNe (dVar 3) (dC (.int 1)))) (dTest (dOp oLe (dOp oMulA (dOp oIx (dVar 1) (dVar 4)) (dOp oIx (dOp oIx (dVar 0) (dVar 4)) (dC (.int 0)))) (dC (.int 0)))))
  (sRet (dC (.bl false))) sNext)
  (sRet (dCB bAll (aCons (dNew (fLc (iRange1 (aCons (dCB bLen (aCons (dVar 0) aNil)) aNil)) (.nm 6) tAll (dOp oEq (dOp oMulA (dOp oMulA (dOp oIx (dVar 1) (dVar 6)) (dOp oIx (dOp oIx (dVar 0) (dVar 4)) (dC (.int 0)))) (dOp oIx (dOp oIx (dVar 0) (dVar 6)) (dC (.int 1)))) (dOp oMulA (dOp oMulA (dOp oIx (dVar 1) (dVar 4)) (dOp oIx (dOp oIx (dVar 0) (dVar 6)) (dC (.int 0)))) (dOp oIx (dOp oIx (dVar 0) (dVar 4)) (dC (.int 1))))) [6])) aNil))))))))))
theorem body_law_whole_so {P : Program} {w : World} {K : PySem.W.Frag} {mg : Str → Option Value} {base : Heap} {k : Nat} {s_law_common : SpD} {s_law_is_whole : SpD} {s_whole_row : SpD} (m_law_common : MonoSp s_law_common) (m_law_is_whole : MonoSp s_law_is_whole) (m_whole_row : MonoSp s_whole_row) (c_whole_row : Cal P w K mg base "whole_row" k 1 s_whole_row) (c_law_is_whole : Cal P w K mg base "_law_is_whole" k 1 s_law_is_whole) (c_law_common : Cal P w K mg base "_law_common" k 2 s_law_common) (B : Bu mg) (f : Addr) (cdv : Value) (A : Around) (outer : List Env) (st : Shared) (H : Hp) (E : XK) (hr : Room k (A.deeper (envOfC "_law_whole_so" (defScope st_law_whole_so) st.heap.objs.size f cdv))) :
    PDSs (cxOf (L2.CX P w) P w K mg base ["_law_r", "_law_told", "_law_v", "_law_part", "_law_k", "_law_x", "_law_i"] "_law_whole_so" (defScope st_law_whole_so) f cdv A outer st H E) E (defBody st_law_whole_so) (T_law_whole_so s_law_common s_law_is_whole s_whole_row) :=
  (pdss_cons (pds_set (pd_cal c_whole_row m_whole_row hr (by rfl) (pda_cons (pd_var (pv 0)) pda_nil)) (fun h => ps_set (i := 1) sc_law_whole_so.nd rfl (Or.inr rfl) h))
  (pdss_cons (pds_if (PDW.pt (pdw_or (pdt_not (pdt_truth (pd_callB (call_isi.or (call_isiT.or call_isiK)) cd_isi m_isi (by rfl) B.b_isinstance boot_isinstance (pda_cons (pd_var (pv 1)) (pda_cons (pd_blt (by rfl) B.b_tuple boot_tuple) pda_nil))))) (pdw_or (pdt_ne hr.units (pd_callB call_len cd_len m_len (by rfl) B.b_len PySem.boot_len (pda_cons (pd_var (pv 1)) pda_nil)) (pd_callB call_len cd_len m_len (by rfl) B.b_len PySem.boot_len (pda_cons (pd_var (pv 0)) pda_nil))) (pdw_or1 (pdt_not (pdt_truth (pd_callB (cr_all rfl) cd_all m_all (by rfl) B.b_all boot_all (pda_cons (PDF.pd (pdf_lc rfl sc_law_whole_so.nd (pdi_any (pd_var (pv 1))) (blkOk_by (own := [("_law_v", 2)]) (by kernel_rfl)) (fun _ _ _ _ _ => (pgd_name (pg_name (i := 2) sc_law_whole_so.nd rfl (by first | exact Or.inl rfl | exact Or.inr rfl)))) (fun _ _ _ _ _ => pdts_nil) (fun _ _ _ _ _ => (pd_cal c_law_is_whole m_law_is_whole hr (by rfl) (pda_cons (pd_var (pv 2)) pda_nil))))) pda_nil))))))))
  (pdss_one (pds_ret pd_bl)) pdss_nil)
  (pdss_cons (pds_if (pdt_truth (pd_callB (cr_all rfl) cd_all m_all (by rfl) B.b_all boot_all (pda_cons (PDF.pd (pdf_lc rfl sc_law_whole_so.nd (pdi_any (pd_var (pv 0))) (blkOk_by (own := [("_law_x", 5)]) (by kernel_rfl)) (fun _ _ _ _ _ => (pgd_name (pg_name (i := 5) sc_law_whole_so.nd rfl (by first | exact Or.inl rfl | exact Or.inr rfl)))) (fun _ _ _ _ _ => pdts_nil) (fun _ _ _ _ _ => (pd_eq hr.units (pd_ix (pd_var (pv 5)) pd_int (fun _ _ => rfl)) pd_int)))) pda_nil)))
  (pdss_one (pds_ret (pd_callB (cr_all rfl) cd_all m_all (by rfl) B.b_all boot_all (pda_cons (PDF.pd (pdf_lc rfl sc_law_whole_so.nd (pdi_any (pd_var (pv 1))) (blkOk_by (own := [("_law_v", 2)]) (by kernel_rfl)) (fun _ _ _ _ _ => (pgd_name (pg_name (i := 2) sc_law_whole_so.nd rfl (by first | exact Or.inl rfl | exact Or.inr rfl)))) (fun _ _ _ _ _ => pdts_nil) (fun _ _ _ _ _ => (pd_eq hr.units (pd_var (pv 2)) pd_int)))) pda_nil)))) pdss_nil)
  (pdss_cons (pds_set pd_int (fun h => ps_set (i := 3) sc_law_whole_so.nd rfl (Or.inl rfl) h))
  (pdss_cons (pds_for (passes_of rfl) rfl (pdi_any (pd_var (pv 1))) (pgd_name (pg_name (i := 2) sc_law_whole_so.nd rfl (Or.inl rfl)))
  (pdss_one (pds_set (pd_cal c_law_common m_law_common hr (by rfl) (pda_cons (pd_var (pv 3)) (pda_cons (pd_var (pv 2)) pda_nil))) (fun h => ps_set (i := 3) sc_law_whole_so.nd rfl (Or.inl rfl) h))))
  (pdss_cons (pds_set (pd_ix (PDF.pd (pdf_lc rfl sc_law_whole_so.nd (pdi_range1 (by rfl) B.b_range (pda_cons (pd_callB call_len cd_len m_len (by rfl) B.b_len PySem.boot_len (pda_cons (pd_var (pv 0)) pda_nil)) pda_nil)) (blkOk_by (own := [("_law_i", 6)]) (by kernel_rfl)) (fun _ _ _ _ _ => (pgd_name (pg_name (i := 6) sc_law_whole_so.nd rfl (by first | exact Or.inl rfl | exact Or.inr rfl)))) (fun _ _ _ _ _ => (pdts_one (pdt_ne hr.units (pd_ix (pd_ix (pd_var (pv 0)) (pd_var (pv 6)) (fun _ _ => rfl)) pd_int (fun _ _ => rfl)) pd_int))) (fun _ _ _ _ _ => (pd_var (pv 6))))) pd_int (fun _ _ => rfl)) (fun h => ps_set (i := 4) sc_law_whole_so.nd rfl (Or.inr rfl) h))
  (pdss_cons (pds_if (PDW.pt (pdw_or (pdt_ne hr.units (pd_var (pv 3)) pd_int) (pdw_or1 (pdt_le (pd_mul (pd_ix (pd_var (pv 1)) (pd_var (pv 4)) (fun _ _ => rfl)) (pd_ix (pd_ix (pd_var (pv 0)) (pd_var (pv 4)) (fun _ _ => rfl)) pd_int (fun _ _ => rfl))) pd_int))))
  (pdss_one (pds_ret pd_bl)) pdss_nil)
  (pdss_one (pds_ret (pd_callB (cr_all rfl) cd_all m_all (by rfl) B.b_all boot_all (pda_cons (PDF.pd (pdf_lc rfl sc_law_whole_so.nd (pdi_range1 (by rfl) B.b_range (pda_cons (pd_callB call_len cd_len m_len (by rfl) B.b_len PySem.boot_len (pda_cons (pd_var (pv 0)) pda_nil)) pda_nil)) (blkOk_by (own := [("_law_i", 6)]) (by kernel_rfl)) (fun _ _ _ _ _ => (pgd_name (pg_name (i := 6) sc_law_whole_so.nd rfl (by first | exact Or.inl rfl | exact Or.inr rfl)))) (fun _ _ _ _ _ => pdts_nil) (fun _ _ _ _ _ => (pd_eq hr.units (pd_mul (pd_mul (pd_ix (pd_var (pv 1)) (pd_var (pv 6)) (fun _ _ => rfl)) (pd_ix (pd_ix (pd_var (pv 0)) (pd_var (pv 4)) (fun _ _ => rfl)) pd_int (fun _ _ => rfl))) (pd_ix (pd_ix (pd_var (pv 0)) (pd_var (pv 6)) (fun _ _ => rfl)) pd_int (fun _ _ => rfl))) (pd_mul (pd_mul (pd_ix (pd_var (pv 1)) (pd_var (pv 4)) (fun _ _ => rfl)) (pd_ix (pd_ix (pd_var (pv 0)) (pd_var (pv 6)) (fun _ _ => rfl)) pd_int (fun _ _ => rfl))) (pd_ix (pd_ix (pd_var (pv 0)) (pd_var (pv 4)) (fun _ _ => rfl)) pd_int (fun _ _ => rfl))))))) pda_nil)))))))))))

/-! ### _law_two_so -/
abbrev st_law_two_so : Stmt := top 31
theorem sc_law_two_so : FnScope ["_law_r", "_law_s", "_law_x", "_law_due", "_law_a", "_law_b"] ["_law_r", "_law_s", "_law_x"] (defScope st_law_two_so) := ⟨rfl, rfl, rfl, by decide +kernel, rfl, by decide +kernel, by decide +kernel⟩
def T_law_two_so (s_added : SpD) (s_law_dot : SpD) (s_law_plus : SpD) (s_law_same : SpD) (s_law_times : SpD) (s_law_whole_so : SpD) (s_product : SpD) (s_scaled : SpD) : TDS :=
  (sSeq (sIf (dNot (dTru (dCall 2 s_law_same [] (aCons (dNew (fLst (aCons (dCall 2 s_product [] (aCons (dVar 0) (aCons (dVar 1) aNil))) (aCons (dCallK 2 0 2 s_product [1, 0] [] aNil (aCons (dVar 0) (aCons (dVar 1) aNil))) aNil)))) (aCons (dNew (fLst (aCons (dCall 2 s_law_dot [] (aCons (dVar 0) (aCons (dVar 1) aNil))) (aCons (dCall 2 s_law_dot [] (aCons (dVar 0) (aCons (dVar 1) aNil))) aNil)))) aNil)))))
  (sRet (dC (.bl false))) sNext)
  (sSeq (sIf (dNot (dTru (dCall 2 s_law_same [] (aCons (dNew (fLst (aCons (dCall 2 s_scaled [] (aCons (dVar 0) (aCons (dVar 2) aNil))) (aCons (dCallK 2 0 2 s_scaled [1, 0] [] aNil (aCons (dVar 2) (aCons (dVar 1) aNil))) aNil)))) (aCons (dNew (fLst (aCons (dCB bTuple (aCons (dNew (fLc (iItems (dVar 0)) (.nm 4) tAll (dCall 2 s_law_times [] (aCons (dVar 4) (aCons (dVar 2) aNil))) [4])) aNil)) (aCons (dCB bTuple (aCons (dNew (fLc (iItems (dVar 1)) (.nm 4) tAll (dCall 2 s_law_times [] (aCons (dVar 4) (aCons (dVar 2) aNil))) [4])) aNil)) aNil)))) aNil)))))
  (sRet (dC (.bl false))) sNext)
  (sSeq (sSet 3 (dCB bTuple (aCons (dNew (fLc (iZip2 (aCons (dVar 0) (aCons (dVar 1) aNil))) (.tup [(.nm 4), (.nm 5)]) tAll (dCall 2 s_law_plus [] (aCons (dVar 4) (aCons (dVar 5) aNil))) [4, 5])) aNil)))
  (sRet (dAndV (dCall 2 s_law_same [] (aCons (dNew (fLst (aCons (dCall 2 s_added [] (aCons (dVar 0) (aCons (dVar 1) aNil))) (aCons (dCallK 2 0 2 s_added [1, 0] [] aNil (aCons (dVar 0) (aCons (dVar 1) aNil))) aNil)))) (aCons (dNew (fLst (aCons (dVar 3) (aCons (dVar 3) aNil)))) aNil))) (dAndV (dCall 1 s_law_whole_so [] (aCons (dVar 0) aNil)) (dAndV (dCall 1 s_law_whole_so [] (aCons (dVar 1) aNil)) (dCall 1 s_law_whole_so [] (aCons (dVar 3) aNil)))))))))
theorem body_law_two_so {P : Program} {w : World} {K : PySem.W.Frag} {mg : Str → Option Value} {base : Heap} {k : Nat} {s_added : SpD} {s_law_dot : SpD} {s_law_plus : SpD} {s_law_same : SpD} {s_law_times : SpD} {s_law_whole_so : SpD} {s_product : SpD} {s_scaled : SpD} (m_added : MonoSp s_added) (m_law_dot : MonoSp s_law_dot) (m_law_plus : MonoSp s_law_plus) (m_law_same : MonoSp s_law_same) (m_law_times : MonoSp s_law_times) (m_law_whole_so : MonoSp s_law_whole_so) (m_product : MonoSp s_product) (m_scaled : MonoSp s_scaled) (c_law_dot : Cal P w K mg base "_law_dot" k 2 s_law_dot) (c_product : Cal P w K mg base "product" k 2 s_product) (c_law_same : Cal P w K mg base "_law_same" k 2 s_law_same) (c_law_times : Cal P w K mg base "_law_times" k 2 s_law_times) (c_scaled : Cal P w K mg base "scaled" k 2 s_scaled) (c_law_plus : Cal P w K mg base "_law_plus" k 2 s_law_plus) (c_added : Cal P w K mg base "added" k 2 s_added) (c_law_whole_so : Cal P w K mg base "_law_whole_so" k 1 s_law_whole_so) (q_product_0_other_one : CalK P w K mg base "product" k 2 s_product 0 ["other", "one"] [1, 0] []) (q_scaled_0_value_row : CalK P w K mg base "scaled" k 2 s_scaled 0 ["value", "row"] [1, 0] []) (q_added_0_other_one : CalK P w K mg base "added" k 2 s_added 0 ["other", "one"] [1, 0] []) (B : Bu mg) (f : Addr) (cdv : Value) (A : Around) (outer : List Env) (st : Shared) (H : Hp) (E : XK) (hr : Room k (A.deeper (envOfC "_law_two_so" (defScope st_law_two_so) st.heap.objs.size f cdv))) :
    PDSs (cxOf (L2.CX P w) P w K mg base ["_law_r", "_law_s", "_law_x", "_law_due", "_law_a", "_law_b"] "_law_two_so" (defScope st_law_two_so) f cdv A outer st H E) E (defBody st_law_two_so) (T_law_two_so s_added s_law_dot s_law_plus s_law_same s_law_times s_law_whole_so s_product s_scaled) :=
  (pdss_cons (pds_if (pdt_not (pdt_truth (pd_cal c_law_same m_law_same hr (by rfl) (pda_cons (PDF.pd (pdf_lst (pda_cons (pd_cal c_product m_product hr (by rfl) (pda_cons (pd_var (pv 0)) (pda_cons (pd_var (pv 1)) pda_nil))) (pda_cons (pd_calK0 q_product_0_other_one m_product hr (by rfl) (pdk_cons (pd_var (pv 0)) (pdk_cons (pd_var (pv 1)) pdk_nil))) pda_nil)))) (pda_cons (PDF.pd (pdf_lst (pda_cons (pd_cal c_law_dot m_law_dot hr (by rfl) (pda_cons (pd_var (pv 0)) (pda_cons (pd_var (pv 1)) pda_nil))) (pda_cons (pd_cal c_law_dot m_law_dot hr (by rfl) (pda_cons (pd_var (pv 0)) (pda_cons (pd_var (pv 1)) pda_nil))) pda_nil)))) pda_nil)))))
  (pdss_one (pds_ret pd_bl)) pdss_nil)
  (pdss_cons (pds_if (pdt_not (pdt_truth (pd_cal c_law_same m_law_same hr (by rfl) (pda_cons (PDF.pd (pdf_lst (pda_cons (pd_cal c_scaled m_scaled hr (by rfl) (pda_cons (pd_var (pv 0)) (pda_cons (pd_var (pv 2)) pda_nil))) (pda_cons (pd_calK0 q_scaled_0_value_row m_scaled hr (by rfl) (pdk_cons (pd_var (pv 2)) (pdk_cons (pd_var (pv 1)) pdk_nil))) pda_nil)))) (pda_cons (PDF.pd (pdf_lst (pda_cons (pd_callTy call_tuple_of cd_tuple m_tuple (by rfl) B.b_tuple boot_tuple (pda_cons (PDF.pd (pdf_lc rfl sc_law_two_so.nd (pdi_any (pd_var (pv 0))) (blkOk_by (own := [("_law_a", 4)]) (by kernel_rfl)) (fun _ _ _ _ _ => (pgd_name (pg_name (i := 4) sc_law_two_so.nd rfl (by first | exact Or.inl rfl | exact Or.inr rfl)))) (fun _ _ _ _ _ => pdts_nil) (fun _ _ _ _ _ => (pd_cal c_law_times m_law_times hr (by rfl) (pda_cons (pd_var (pv 4)) (pda_cons (pd_var (pv 2)) pda_nil)))))) pda_nil)) (pda_cons (pd_callTy call_tuple_of cd_tuple m_tuple (by rfl) B.b_tuple boot_tuple (pda_cons (PDF.pd (pdf_lc rfl sc_law_two_so.nd (pdi_any (pd_var (pv 1))) (blkOk_by (own := [("_law_a", 4)]) (by kernel_rfl)) (fun _ _ _ _ _ => (pgd_name (pg_name (i := 4) sc_law_two_so.nd rfl (by first | exact Or.inl rfl | exact Or.inr rfl)))) (fun _ _ _ _ _ => pdts_nil) (fun _ _ _ _ _ => (pd_cal c_law_times m_law_times hr (by rfl) (pda_cons (pd_var (pv 4)) (pda_cons (pd_var (pv 2)) pda_nil)))))) pda_nil)) pda_nil)))) pda_nil)))))
  (pdss_one (pds_ret pd_bl)) pdss_nil)
  (pdss_cons (pds_set (pd_callTy call_tuple_of cd_tuple m_tuple (by rfl) B.b_tuple boot_tuple (pda_cons (PDF.pd (pdf_lc rfl sc_law_two_so.nd (pdi_zip (by rfl) B.b_zip (pda_cons (pd_var (pv 0)) (pda_cons (pd_var (pv 1)) pda_nil))) (blkOk_by (own := [("_law_a", 4), ("_law_b", 5)]) (by kernel_rfl)) (fun _ _ _ _ _ => (pgd_tup rfl (pgds_cons (pgd_name (pg_name (i := 4) sc_law_two_so.nd rfl (by first | exact Or.inl rfl | exact Or.inr rfl))) (pgds_cons (pgd_name (pg_name (i := 5) sc_law_two_so.nd rfl (by first | exact Or.inl rfl | exact Or.inr rfl))) pgds_nil)) rfl)) (fun _ _ _ _ _ => pdts_nil) (fun _ _ _ _ _ => (pd_cal c_law_plus m_law_plus hr (by rfl) (pda_cons (pd_var (pv 4)) (pda_cons (pd_var (pv 5)) pda_nil)))))) pda_nil)) (fun h => ps_set (i := 3) sc_law_two_so.nd rfl (Or.inl rfl) h))
  (pdss_one (pds_ret (pd_and (pd_cal c_law_same m_law_same hr (by rfl) (pda_cons (PDF.pd (pdf_lst (pda_cons (pd_cal c_added m_added hr (by rfl) (pda_cons (pd_var (pv 0)) (pda_cons (pd_var (pv 1)) pda_nil))) (pda_cons (pd_calK0 q_added_0_other_one m_added hr (by rfl) (pdk_cons (pd_var (pv 0)) (pdk_cons (pd_var (pv 1)) pdk_nil))) pda_nil)))) (pda_cons (PDF.pd (pdf_lst (pda_cons (pd_var (pv 3)) (pda_cons (pd_var (pv 3)) pda_nil)))) pda_nil))) (pd_and (pd_cal c_law_whole_so m_law_whole_so hr (by rfl) (pda_cons (pd_var (pv 0)) pda_nil)) (pd_and (pd_cal c_law_whole_so m_law_whole_so hr (by rfl) (pda_cons (pd_var (pv 1)) pda_nil)) (pd_one (pd_cal c_law_whole_so m_law_whole_so hr (by rfl) (pda_cons (pd_var (pv 3)) pda_nil)))))))))))

/-! ### _law_tied_so -/
abbrev st_law_tied_so : Stmt := top 32
theorem sc_law_tied_so : FnScope ["_law_r", "_law_s", "_law_t", "_law_x", "_law_both", "_law_told", "_law_v"] ["_law_r", "_law_s", "_law_t", "_law_x"] (defScope st_law_tied_so) := ⟨rfl, rfl, rfl, by decide +kernel, rfl, by decide +kernel, by decide +kernel⟩
def T_law_tied_so (s_added : SpD) (s_law_plus : SpD) (s_law_same : SpD) (s_law_times : SpD) (s_law_whole_so : SpD) (s_product : SpD) (s_scaled : SpD) (s_whole_row : SpD) : TDS :=
  (sSeq (sSet 4 (dCall 2 s_added [] (aCons (dVar 0) (aCons (dVar 1) aNil))))
  (sSeq (sIf (dNot (dTru (dCall 2 s_law_same [] (aCons (dCall 2 s_product [] (aCons (dVar 4) (aCons (dVar 2) aNil))) (aCons (dCall 2 s_law_plus [] (aCons (dCall 2 s_product [] (aCons (dVar 0) (aCons (dVar 2) aNil))) (aCons (dCall 2 s_product [] (aCons (dVar 1) (aCons (dVar 2) aNil))) aNil))) aNil)))))
  (sRet (dC (.bl false))) sNext)
  (sSeq (sIf (dNot (dTru (dCall 2 s_law_same [] (aCons (dNew (fLst (aCons (dCall 2 s_product [] (aCons (dCall 2 s_scaled [] (aCons (dVar 0) (aCons (dVar 3) aNil))) (aCons (dVar 1) aNil))) (aCons (dCall 2 s_product [] (aCons (dVar 0) (aCons (dCall 2 s_scaled [] (aCons (dVar 1) (aCons (dVar 3) aNil))) aNil))) aNil)))) (aCons (dNew (fLst (aCons (dCall 2 s_law_times [] (aCons (dCall 2 s_product [] (aCons (dVar 0) (aCons (dVar 1) aNil))) (aCons (dVar 3) aNil))) (aCons (dCall 2 s_law_times [] (aCons (dVar 3) (aCons (dCall 2 s_product [] (aCons (dVar 1) (aCons (dVar 0) aNil))) aNil))) aNil)))) aNil)))))
  (sRet (dC (.bl false))) sNext)
  (sSeq (sIf (dNot (dTru (dCall 2 s_law_same [] (aCons (dNew (fLst (aCons (dCall 2 s_added [] (aCons (dVar 4) (aCons (dVar 2) aNil))) (aCons (dCall 2 s_added [] (aCons (dVar 4) (aCons (dCall 2 s_scaled [] (aCons (dVar 1) (aCons (dTup (aCons (dUn uNeg (dC (.int 1))) (aCons (dC (.int 1)) aNil))) aNil))) aNil))) (aCons (dCall 2 s_scaled [] (aCons (dVar 4) (aCons (dVar 3) aNil))) aNil))))) (aCons (dNew (fLst (aCons (dCall 2 s_added [] (aCons (dVar 0) (aCons (dCall 2 s_added [] (aCons (dVar 1) (aCons (dVar 2) aNil))) aNil))) (aCons (dVar 0) (aCons (dCall 2 s_added [] (aCons (dCall 2 s_scaled [] (aCons (dVar 0) (aCons (dVar 3) aNil))) (aCons (dCall 2 s_scaled [] (aCons (dVar 1) (aCons (dVar 3) aNil))) aNil))) aNil))))) aNil)))))
  (sRet (dC (.bl false))) sNext)
  (sSeq (sIf (dNot (dTru (dCall 1 s_law_whole_so [] (aCons (dCall 2 s_scaled [] (aCons (dVar 4) (aCons (dVar 3) aNil))) aNil))))
  (sRet (dC (.bl false))) sNext)
  (sSeq (sSet 5 (dCallK 1 0 1 s_whole_row [0] [] aNil (aCons (dVar 0) aNil)))
  (sSeq (sIf (dAnd (dTest (dOp oGt (dOp oIx (dVar 3) (dC (.int 0))) (dC (.int 0)))) (dNot (dTru (dCall 2 s_law_same [] (aCons (dCall 1 s_whole_row [] (aCons (dCall 2 s_scaled [] (aCons (dVar 0) (aCons (dVar 3) aNil))) aNil)) (aCons (dVar 5) aNil))))))
  (sRet (dC (.bl false))) sNext)
  (sSeq (sIf (dAnd (dTest (dOp oLt (dOp oIx (dVar 3) (dC (.int 0))) (dC (.int 0)))) (dNot (dTru (dCall 2 s_law_same [] (aCons (dCall 1 s_whole_row [] (aCons (dCall 2 s_scaled [] (aCons (dVar 0) (aCons (dVar 3) aNil))) aNil)) (aCons (dCB bTuple (aCons (dNew (fLc (iItems (dVar 5)) (.nm 6) tAll (dOp oSub (dC (.int 0)) (dVar 6)) [6])) aNil)) aNil))))))
  (sRet (dC (.bl false))) sNext)
  (sRet (dCall 2 s_law_same [] (aCons (dCall 1 s_whole_row [] (aCons (dCB bTuple (aCons (dNew (fLc (iItems (dVar 5)) (.nm 6) tAll (dTup (aCons (dVar 6) (aCons (dC (.int 1)) aNil))) [6])) aNil)) aNil)) (aCons (dVar 5) aNil))))))))))))
theorem body_law_tied_so {P : Program} {w : World} {K : PySem.W.Frag} {mg : Str → Option Value} {base : Heap} {k : Nat} {s_added : SpD} {s_law_plus : SpD} {s_law_same : SpD} {s_law_times : SpD} {s_law_whole_so : SpD} {s_product : SpD} {s_scaled : SpD} {s_whole_row : SpD} (m_added : MonoSp s_added) (m_law_plus : MonoSp s_law_plus) (m_law_same : MonoSp s_law_same) (m_law_times : MonoSp s_law_times) (m_law_whole_so : MonoSp s_law_whole_so) (m_product : MonoSp s_product) (m_scaled : MonoSp s_scaled) (m_whole_row : MonoSp s_whole_row) (c_added : Cal P w K mg base "added" k 2 s_added) (c_product : Cal P w K mg base "product" k 2 s_product) (c_law_plus : Cal P w K mg base "_law_plus" k 2 s_law_plus) (c_law_same : Cal P w K mg base "_law_same" k 2 s_law_same) (c_law_times : Cal P w K mg base "_law_times" k 2 s_law_times) (c_scaled : Cal P w K mg base "scaled" k 2 s_scaled) (c_law_whole_so : Cal P w K mg base "_law_whole_so" k 1 s_law_whole_so) (c_whole_row : Cal P w K mg base "whole_row" k 1 s_whole_row) (q_whole_row_0_row : CalK P w K mg base "whole_row" k 1 s_whole_row 0 ["row"] [0] []) (B : Bu mg) (f : Addr) (cdv : Value) (A : Around) (outer : List Env) (st : Shared) (H : Hp) (E : XK) (hr : Room k (A.deeper (envOfC "_law_tied_so" (defScope st_law_tied_so) st.heap.objs.size f cdv))) :
    PDSs (cxOf (L2.CX P w) P w K mg base ["_law_r", "_law_s", "_law_t", "_law_x", "_law_both", "_law_told", "_law_v"] "_law_tied_so" (defScope st_law_tied_so) f cdv A outer st H E) E (defBody st_law_tied_so) (T_law_tied_so s_added s_law_plus s_law_same s_law_times s_law_whole_so s_product s_scaled s_whole_row) :=
  (pdss_cons (pds_set (pd_cal c_added m_added hr (by rfl) (pda_cons (pd_var (pv 0)) (pda_cons (pd_var (pv 1)) pda_nil))) (fun h => ps_set (i := 4) sc_law_tied_so.nd rfl (Or.inl rfl) h))
  (pdss_cons (pds_if (pdt_not (pdt_truth (pd_cal c_law_same m_law_same hr (by rfl) (pda_cons (pd_cal c_product m_product hr (by rfl) (pda_cons (pd_var (pv 4)) (pda_cons (pd_var (pv 2)) pda_nil))) (pda_cons (pd_cal c_law_plus m_law_plus hr (by rfl) (pda_cons (pd_cal c_product m_product hr (by rfl) (pda_cons (pd_var (pv 0)) (pda_cons (pd_var (pv 2)) pda_nil))) (pda_cons (pd_cal c_product m_product hr (by rfl) (pda_cons (pd_var (pv 1)) (pda_cons (pd_var (pv 2)) pda_nil))) pda_nil))) pda_nil)))))
  (pdss_one (pds_ret pd_bl)) pdss_nil)
  (pdss_cons (pds_if (pdt_not (pdt_truth (pd_cal c_law_same m_law_same hr (by rfl) (pda_cons (PDF.pd (pdf_lst (pda_cons (pd_cal c_product m_product hr (by rfl) (pda_cons (pd_cal c_scaled m_scaled hr (by rfl) (pda_cons (pd_var (pv 0)) (pda_cons (pd_var (pv 3)) pda_nil))) (pda_cons (pd_var (pv 1)) pda_nil))) (pda_cons (pd_cal c_product m_product hr (by rfl) (pda_cons (pd_var (pv 0)) (pda_cons (pd_cal c_scaled m_scaled hr (by rfl) (pda_cons (pd_var (pv 1)) (pda_cons (pd_var (pv 3)) pda_nil))) pda_nil))) pda_nil)))) (pda_cons (PDF.pd (pdf_lst (pda_cons (pd_cal c_law_times m_law_times hr (by rfl) (pda_cons (pd_cal c_product m_product hr (by rfl) (pda_cons (pd_var (pv 0)) (pda_cons (pd_var (pv 1)) pda_nil))) (pda_cons (pd_var (pv 3)) pda_nil))) (pda_cons (pd_cal c_law_times m_law_times hr (by rfl) (pda_cons (pd_var (pv 3)) (pda_cons (pd_cal c_product m_product hr (by rfl) (pda_cons (pd_var (pv 1)) (pda_cons (pd_var (pv 0)) pda_nil))) pda_nil))) pda_nil)))) pda_nil)))))
  (pdss_one (pds_ret pd_bl)) pdss_nil)
  (pdss_cons (pds_if (pdt_not (pdt_truth (pd_cal c_law_same m_law_same hr (by rfl) (pda_cons (PDF.pd (pdf_lst (pda_cons (pd_cal c_added m_added hr (by rfl) (pda_cons (pd_var (pv 4)) (pda_cons (pd_var (pv 2)) pda_nil))) (pda_cons (pd_cal c_added m_added hr (by rfl) (pda_cons (pd_var (pv 4)) (pda_cons (pd_cal c_scaled m_scaled hr (by rfl) (pda_cons (pd_var (pv 1)) (pda_cons (pd_tup (pda_cons (pd_neg pd_int) (pda_cons pd_int pda_nil))) pda_nil))) pda_nil))) (pda_cons (pd_cal c_scaled m_scaled hr (by rfl) (pda_cons (pd_var (pv 4)) (pda_cons (pd_var (pv 3)) pda_nil))) pda_nil))))) (pda_cons (PDF.pd (pdf_lst (pda_cons (pd_cal c_added m_added hr (by rfl) (pda_cons (pd_var (pv 0)) (pda_cons (pd_cal c_added m_added hr (by rfl) (pda_cons (pd_var (pv 1)) (pda_cons (pd_var (pv 2)) pda_nil))) pda_nil))) (pda_cons (pd_var (pv 0)) (pda_cons (pd_cal c_added m_added hr (by rfl) (pda_cons (pd_cal c_scaled m_scaled hr (by rfl) (pda_cons (pd_var (pv 0)) (pda_cons (pd_var (pv 3)) pda_nil))) (pda_cons (pd_cal c_scaled m_scaled hr (by rfl) (pda_cons (pd_var (pv 1)) (pda_cons (pd_var (pv 3)) pda_nil))) pda_nil))) pda_nil))))) pda_nil)))))
  (pdss_one (pds_ret pd_bl)) pdss_nil)
  (pdss_cons (pds_if (pdt_not (pdt_truth (pd_cal c_law_whole_so m_law_whole_so hr (by rfl) (pda_cons (pd_cal c_scaled m_scaled hr (by rfl) (pda_cons (pd_var (pv 4)) (pda_cons (pd_var (pv 3)) pda_nil))) pda_nil))))
  (pdss_one (pds_ret pd_bl)) pdss_nil)
  (pdss_cons (pds_set (pd_calK0 q_whole_row_0_row m_whole_row hr (by rfl) (pdk_cons (pd_var (pv 0)) pdk_nil)) (fun h => ps_set (i := 5) sc_law_tied_so.nd rfl (Or.inl rfl) h))
  (pdss_cons (pds_if (PDW.pt (pdw_and (pdt_gt (pd_ix (pd_var (pv 3)) pd_int (fun _ _ => rfl)) pd_int) (pdw_and1 (pdt_not (pdt_truth (pd_cal c_law_same m_law_same hr (by rfl) (pda_cons (pd_cal c_whole_row m_whole_row hr (by rfl) (pda_cons (pd_cal c_scaled m_scaled hr (by rfl) (pda_cons (pd_var (pv 0)) (pda_cons (pd_var (pv 3)) pda_nil))) pda_nil)) (pda_cons (pd_var (pv 5)) pda_nil))))))))
  (pdss_one (pds_ret pd_bl)) pdss_nil)
  (pdss_cons (pds_if (PDW.pt (pdw_and (pdt_lt (pd_ix (pd_var (pv 3)) pd_int (fun _ _ => rfl)) pd_int) (pdw_and1 (pdt_not (pdt_truth (pd_cal c_law_same m_law_same hr (by rfl) (pda_cons (pd_cal c_whole_row m_whole_row hr (by rfl) (pda_cons (pd_cal c_scaled m_scaled hr (by rfl) (pda_cons (pd_var (pv 0)) (pda_cons (pd_var (pv 3)) pda_nil))) pda_nil)) (pda_cons (pd_callTy call_tuple_of cd_tuple m_tuple (by rfl) B.b_tuple boot_tuple (pda_cons (PDF.pd (pdf_lc rfl sc_law_tied_so.nd (pdi_any (pd_var (pv 5))) (blkOk_by (own := [("_law_v", 6)]) (by kernel_rfl)) (fun _ _ _ _ _ => (pgd_name (pg_name (i := 6) sc_law_tied_so.nd rfl (by first | exact Or.inl rfl | exact Or.inr rfl)))) (fun _ _ _ _ _ => pdts_nil) (fun _ _ _ _ _ => (pd_sub pd_int (pd_var (pv 6)))))) pda_nil)) pda_nil))))))))
  (pdss_one (pds_ret pd_bl)) pdss_nil)
  (pdss_one (pds_ret (pd_cal c_law_same m_law_same hr (by rfl) (pda_cons (pd_cal c_whole_row m_whole_row hr (by rfl) (pda_cons (pd_callTy call_tuple_of cd_tuple m_tuple (by rfl) B.b_tuple boot_tuple (pda_cons (PDF.pd (pdf_lc rfl sc_law_tied_so.nd (pdi_any (pd_var (pv 5))) (blkOk_by (own := [("_law_v", 6)]) (by kernel_rfl)) (fun _ _ _ _ _ => (pgd_name (pg_name (i := 6) sc_law_tied_so.nd rfl (by first | exact Or.inl rfl | exact Or.inr rfl)))) (fun _ _ _ _ _ => pdts_nil) (fun _ _ _ _ _ => (pd_tup (pda_cons (pd_var (pv 6)) (pda_cons pd_int pda_nil)))))) pda_nil)) pda_nil)) (pda_cons (pd_var (pv 5)) pda_nil)))))))))))))

/-! ### law -/
abbrev st_law : Stmt := top 33
theorem sc_law : FnScope ["_law_script", "_law_bag_here", "_law_turn", "_law_size", "_law_r", "_law_s", "_law_t", "_law_x", "_law_a"] ["_law_script"] (defScope st_law) := ⟨rfl, rfl, rfl, by decide +kernel, rfl, by decide +kernel, by decide +kernel⟩
def T_law (s_law_draw : SpD) (s_law_fraction : SpD) (s_law_pick : SpD) (s_law_row : SpD) (s_law_small : SpD) (s_law_tied_so : SpD) (s_law_two_so : SpD) : TDS :=
  (sSeq (sFor (iRange1 (aCons (dC (.int 6)) aNil)) (.nm 2)
  (sSeq (sSet 3 (dCall 2 s_law_pick [] (aCons (dVar 1) (aCons (dNew (fLst (aCons (dC (.int 0)) (aCons (dC (.int 1)) (aCons (dC (.int 1)) (aCons (dC (.int 2)) (aCons (dC (.int 3)) (aCons (dC (.int 3)) (aCons (dC (.int 4)) (aCons (dC (.int 6)) aNil)))))))))) aNil))))
  (sSeq (sPar [4, 5, 6] (aCons (dCall 2 s_law_row [] (aCons (dVar 1) (aCons (dVar 3) aNil))) (aCons (dCall 2 s_law_row [] (aCons (dVar 1) (aCons (dVar 3) aNil))) (aCons (dCall 2 s_law_row [] (aCons (dVar 1) (aCons (dVar 3) aNil))) aNil))))
  (sSeq (sSet 7 (dCall 2 s_law_pick [] (aCons (dVar 1) (aCons (dNew (fLst (aCons (dCall 1 s_law_small [] (aCons (dVar 1) aNil)) (aCons (dCall 1 s_law_fraction [] (aCons (dVar 1) aNil)) (aCons (dTup (aCons (dC (.int 0)) (aCons (dC (.int 1)) aNil))) (aCons (dTup (aCons (dUn uNeg (dC (.int 1))) (aCons (dC (.int 1)) aNil))) (aCons (dTup (aCons (dC (.int 1)) (aCons (dC (.int 1)) aNil))) aNil))))))) aNil))))
  (sSeq (sIf (dTest (dOp oEq (dCall 2 s_law_draw [] (aCons (dVar 1) (aCons (dC (.int 5)) aNil))) (dC (.int 0))))
  (sSet 5 (dCall 2 s_law_pick [] (aCons (dVar 1) (aCons (dNew (fLst (aCons (dVar 4) (aCons (dCB bTuple (aCons (dNew (fLc (iItems (dVar 4)) (.nm 8) tAll (dTup (aCons (dOp oSub (dC (.int 0)) (dOp oIx (dVar 8) (dC (.int 0)))) (aCons (dOp oIx (dVar 8) (dC (.int 1))) aNil))) [8])) aNil)) aNil)))) aNil)))) sNext)
  (sIf (dOr (dNot (dTru (dCall 3 s_law_two_so [] (aCons (dVar 4) (aCons (dVar 5) (aCons (dVar 7) aNil)))))) (dNot (dTru (dCall 4 s_law_tied_so [] (aCons (dVar 4) (aCons (dVar 5) (aCons (dVar 6) (aCons (dVar 7) aNil))))))))
  (sRet (dC (.bl false))) sNext))))))
  (sRet (dC (.bl true))))
theorem body_law {P : Program} {w : World} {K : PySem.W.Frag} {mg : Str → Option Value} {base : Heap} {k : Nat} {s_law_draw : SpD} {s_law_fraction : SpD} {s_law_pick : SpD} {s_law_row : SpD} {s_law_small : SpD} {s_law_tied_so : SpD} {s_law_two_so : SpD} (m_law_draw : MonoSp s_law_draw) (m_law_fraction : MonoSp s_law_fraction) (m_law_pick : MonoSp s_law_pick) (m_law_row : MonoSp s_law_row) (m_law_small : MonoSp s_law_small) (m_law_tied_so : MonoSp s_law_tied_so) (m_law_two_so : MonoSp s_law_two_so) (c_law_pick : Cal P w K mg base "_law_pick" k 2 s_law_pick) (c_law_row : Cal P w K mg base "_law_row" k 2 s_law_row) (c_law_fraction : Cal P w K mg base "_law_fraction" k 1 s_law_fraction) (c_law_small : Cal P w K mg base "_law_small" k 1 s_law_small) (c_law_draw : Cal P w K mg base "_law_draw" k 2 s_law_draw) (c_law_two_so : Cal P w K mg base "_law_two_so" k 3 s_law_two_so) (c_law_tied_so : Cal P w K mg base "_law_tied_so" k 4 s_law_tied_so) (B : Bu mg) (cb : CalBag P w K mg base "_law_bag" k) (f : Addr) (cdv : Value) (A : Around) (outer : List Env) (st : Shared) (H : Hp) (E : XK) (hr : Room k (A.deeper (envOfC "law" (defScope st_law) st.heap.objs.size f cdv))) :
    PSs (cxOf (L2.CX P w) P w K mg base ["_law_script", "_law_bag_here", "_law_turn", "_law_size", "_law_r", "_law_s", "_law_t", "_law_x", "_law_a"] "law" (defScope st_law) f cdv A outer st H E) (defBody st_law) (tSeq (tAsg (tCall (spBag K) [] E0 (tCons (tVar 0) tNil)) (gName 1)) (liftS K E (T_law s_law_draw s_law_fraction s_law_pick s_law_row s_law_small s_law_tied_so s_law_two_so))) :=
  pss_cons (ps_set (i := 1) sc_law.nd rfl (Or.inl rfl) (pe_bag cb hr (by rfl) (pv 0))) (PDSs.run (pdss_cons (pds_for (passes_of rfl) rfl (pdi_range1 (by rfl) B.b_range (pda_cons pd_int pda_nil)) (pgd_name (pg_name (i := 2) sc_law.nd rfl (Or.inl rfl)))
  (pdss_cons (pds_set (pd_cal c_law_pick m_law_pick hr (by rfl) (pda_cons (pd_var (pv 1)) (pda_cons (PDF.pd (pdf_lst (pda_cons pd_int (pda_cons pd_int (pda_cons pd_int (pda_cons pd_int (pda_cons pd_int (pda_cons pd_int (pda_cons pd_int (pda_cons pd_int pda_nil)))))))))) pda_nil))) (fun h => ps_set (i := 3) sc_law.nd rfl (Or.inl rfl) h))
  (pdss_cons (pds_par3 (pda_cons (pd_cal c_law_row m_law_row hr (by rfl) (pda_cons (pd_var (pv 1)) (pda_cons (pd_var (pv 3)) pda_nil))) (pda_cons (pd_cal c_law_row m_law_row hr (by rfl) (pda_cons (pd_var (pv 1)) (pda_cons (pd_var (pv 3)) pda_nil))) (pda_cons (pd_cal c_law_row m_law_row hr (by rfl) (pda_cons (pd_var (pv 1)) (pda_cons (pd_var (pv 3)) pda_nil))) pda_nil))) (fun h => ps_par3 (i := 4) (j := 5) (l := 6) rfl sc_law.nd rfl rfl rfl (by decide) (by decide) (by decide) rfl rfl rfl h (by rfl)))
  (pdss_cons (pds_set (pd_cal c_law_pick m_law_pick hr (by rfl) (pda_cons (pd_var (pv 1)) (pda_cons (PDF.pd (pdf_lst (pda_cons (pd_cal c_law_small m_law_small hr (by rfl) (pda_cons (pd_var (pv 1)) pda_nil)) (pda_cons (pd_cal c_law_fraction m_law_fraction hr (by rfl) (pda_cons (pd_var (pv 1)) pda_nil)) (pda_cons (pd_tup (pda_cons pd_int (pda_cons pd_int pda_nil))) (pda_cons (pd_tup (pda_cons (pd_neg pd_int) (pda_cons pd_int pda_nil))) (pda_cons (pd_tup (pda_cons pd_int (pda_cons pd_int pda_nil))) pda_nil))))))) pda_nil))) (fun h => ps_set (i := 7) sc_law.nd rfl (Or.inl rfl) h))
  (pdss_cons (pds_if (pdt_eq hr.units (pd_cal c_law_draw m_law_draw hr (by rfl) (pda_cons (pd_var (pv 1)) (pda_cons pd_int pda_nil))) pd_int)
  (pdss_one (pds_set (pd_cal c_law_pick m_law_pick hr (by rfl) (pda_cons (pd_var (pv 1)) (pda_cons (PDF.pd (pdf_lst (pda_cons (pd_var (pv 4)) (pda_cons (pd_callTy call_tuple_of cd_tuple m_tuple (by rfl) B.b_tuple boot_tuple (pda_cons (PDF.pd (pdf_lc rfl sc_law.nd (pdi_any (pd_var (pv 4))) (blkOk_by (own := [("_law_a", 8)]) (by kernel_rfl)) (fun _ _ _ _ _ => (pgd_name (pg_name (i := 8) sc_law.nd rfl (by first | exact Or.inl rfl | exact Or.inr rfl)))) (fun _ _ _ _ _ => pdts_nil) (fun _ _ _ _ _ => (pd_tup (pda_cons (pd_sub pd_int (pd_ix (pd_var (pv 8)) pd_int (fun _ _ => rfl))) (pda_cons (pd_ix (pd_var (pv 8)) pd_int (fun _ _ => rfl)) pda_nil)))))) pda_nil)) pda_nil)))) pda_nil))) (fun h => ps_set (i := 5) sc_law.nd rfl (Or.inl rfl) h))) pdss_nil)
  (pdss_one (pds_if (PDW.pt (pdw_or (pdt_not (pdt_truth (pd_cal c_law_two_so m_law_two_so hr (by rfl) (pda_cons (pd_var (pv 4)) (pda_cons (pd_var (pv 5)) (pda_cons (pd_var (pv 7)) pda_nil)))))) (pdw_or1 (pdt_not (pdt_truth (pd_cal c_law_tied_so m_law_tied_so hr (by rfl) (pda_cons (pd_var (pv 4)) (pda_cons (pd_var (pv 5)) (pda_cons (pd_var (pv 6)) (pda_cons (pd_var (pv 7)) pda_nil))))))))))
  (pdss_one (pds_ret pd_bl)) pdss_nil)))))))
  (pdss_one (pds_ret pd_bl))))


open Fr
local macro_rules | `(tactic| walk_at "pl") => `(tactic| simp only [sSeq, sSet, sIf, sRet, sRetN, sNext, sPar, sAsg, sDrop, sNever, dVar, dC, dOp, dUn, dTest, dTru, dAnd, dOr, dNot, dAndV, dOrV, dNotV, dIf, dChain, dCB, dCall, dCallK, aNil, aCons, dTup, dNew, fLst, fLc, tAll, sRel, sFor, PL.iItems, PL.iRange1, PL.iRange2, PL.iZip2,
  bAbs, bLen, bInt, bTuple, oI, oI0, uI, oAdd, oMulA, oEq, oNe, oIs, oIsNot, oIx, D.isNon,
  startD, wipeD, bind_nm, bind_tup, bindA_nil, bindA_one, bindA_two, bindA_three, List.map_cons, List.map_nil, List.length_cons, List.length_nil, List.replicate, List.cons_append, List.nil_append, List.append_nil, List.getElem?_cons_zero, List.getElem?_cons_succ, List.set_cons_zero, List.set_cons_succ, setAllD, List.zip_cons_cons, List.zip_nil_left, List.zip_nil_right, List.zip, List.zipWith,
  gPick, List.filterMap_cons, List.filterMap_nil,
  atI_0, atI_1, Option.some.injEq, exists_eq_left', fr, decide_eq_true_eq, decide_eq_false_iff_not, forall_eq, Bool.not_eq_true, Bool.not_eq_false, Bool.not_true, Bool.not_false, Bool.not_eq_true', Bool.not_eq_false',
  isi_non_list, isi_non_tuple, isi_non_bool, isi_non_int, isi_non_str, isi_non_seq, isi_bl_list, isi_bl_tuple, isi_bl_bool, isi_bl_int, isi_bl_str, isi_bl_seq, isi_int_list, isi_int_tuple, isi_int_bool, isi_int_int, isi_int_str, isi_int_seq, isi_str_list, isi_str_tuple, isi_str_bool, isi_str_int, isi_str_str, isi_str_seq, isi_tup_list, isi_tup_tuple, isi_tup_bool, isi_tup_int, isi_tup_str, isi_tup_seq, isi_lst_list, isi_lst_tuple, isi_lst_bool, isi_lst_int, isi_lst_str, isi_lst_seq, Bool.or_false, Bool.or_true, Bool.true_or, Bool.false_or, Bool.false_eq_true, Bool.true_eq_false,
  Nat.reduceAdd, Nat.reduceSub, true_and, and_true, forall_const, forall_eq', reduceCtorEq, false_implies, implies_true, true_implies])
-- ### common_divisor
def s_common_divisor : SpD := sRel (fun ds => ∃ a b : Int, ds = [.int a, .int b]) (fun ds d => ∃ a b : Int, ds = [.int a, .int b] ∧ d = .int (Int.gcd a b))
theorem gcd_mod {x y : Int} (hy : 0 < y) : Int.gcd y (x.fmod y) = Int.gcd x y := by
  rw [fmod_pos hy, ← Int.gcd_add_mul_right_right y (x % y) (x / y), Int.gcd_comm x y]
  congr 1
  have := Int.emod_add_mul_ediv x y
  rw [Int.mul_comm]
  exact this
theorem ok_common_divisor (ds : List PL.D) (x : XP) (Q : PL.D → Prop) (hl : ds.length = 2) (h : s_common_divisor ds x Q) : T_common_divisor (startD 4 ds) x { nx := fun _ => Q .non, rt := Q } := by
  obtain ⟨⟨a, b, rfl⟩, q⟩ := h
  unfold T_common_divisor
  walk_at "pl"
  refine ⟨fun m G => ∃ x y : Int, 0 ≤ x ∧ 0 ≤ y ∧ y.toNat = m ∧ Int.gcd x y = Int.gcd a b ∧ G = [.v (.int a), .v (.int b), .v (.int x), .v (.int y)], ?_, ?_⟩
  · exact ⟨_, a.natAbs, b.natAbs, by omega, by omega, rfl, rfl, rfl⟩
  · rintro m G ⟨x, y, hx, hy, hm, hg, rfl⟩
    walk_at "pl"
    refine ⟨fun h => ?_, fun h => ?_⟩
    · have hy0 : y ≠ 0 := by simpa using h
      have hy1 : 0 < y := by omega
      refine ⟨hy0, _, ?_, y, _, hy, ?_, rfl, ?_, rfl⟩
      · have := Int.emod_lt_of_pos x hy1
        have := Int.emod_nonneg x hy0
        rw [fmod_pos hy1]
        omega
      · rw [fmod_pos hy1]
        exact Int.emod_nonneg x hy0
      · rw [gcd_mod hy1, hg]
    · have hy0 : y = 0 := by simpa using h
      subst hy0
      refine q _ ⟨a, b, rfl, ?_⟩
      rw [← hg, Int.gcd_zero_right]
      congr 1
      omega
-- ### divisor_of
def gcdL (ns : List Int) : Nat := ns.foldl (fun g n => Int.gcd (g : Int) n) 0
theorem gcdF_one : ∀ ns : List Int, ns.foldl (fun g n => Int.gcd (g : Int) n) 1 = 1
  | [] => rfl
  | n :: ns => by
    rw [List.foldl_cons]
    have : Int.gcd ((1 : Nat) : Int) n = 1 := Int.one_gcd
    rw [this]
    exact gcdF_one ns
theorem gcdL_take_one {ns : List Int} {i : Nat} (h : gcdL (ns.take i) = 1) : gcdL ns = 1 := by
  have e := List.take_append_drop i ns
  unfold gcdL at h ⊢
  rw [← e, List.foldl_append, h]
  exact gcdF_one _
theorem gcdL_succ {ns : List Int} {i : Nat} {n : Int} (h : ns[i]? = some n) : gcdL (ns.take (i + 1)) = Int.gcd (gcdL (ns.take i) : Int) n := by
  rw [List.take_add_one, h]
  unfold gcdL
  rw [List.foldl_append]
  rfl
def s_divisor_of : SpD := sRel (fun ds => ∃ ns : List Int, ds = [.lst (ns.map .int)]) (fun ds d => ∃ ns : List Int, ds = [.lst (ns.map .int)] ∧ d = .int (gcdL ns))
theorem ok_divisor_of (ds : List PL.D) (x : XP) (Q : PL.D → Prop) (hl : ds.length = 1) (h : s_divisor_of ds x Q) : T_divisor_of s_common_divisor (startD 3 ds) x { nx := fun _ => Q .non, rt := Q } := by
  obtain ⟨⟨ns, rfl⟩, q⟩ := h
  unfold T_divisor_of s_common_divisor
  walk_at "pl"
  refine loop_inv (f := D.int) (xs := ns) (I := fun i G => ∃ s, G = [.v (.lst (ns.map D.int)), .v (.int (gcdL (ns.take i))), s]) ⟨_, rfl⟩ ?_ ?_
  · rintro i n hn G ⟨s, rfl⟩
    refine ⟨_, rfl, fun E' h1 h2 h3 h4 => ?_⟩
    walk_at "pl"
    refine ⟨fun h => ?_, fun h => ⟨⟨_, _, rfl⟩, ?_⟩⟩
    · have h : (gcdL (ns.take i) : Int) = 1 := h
      rw [h3]
      refine q _ ⟨ns, rfl, ?_⟩
      rw [gcdL_take_one (ns := ns) (i := i) (by omega)]
      rfl
    · rintro d ⟨a, b, e, rfl⟩
      simp only [List.cons.injEq, D.int.injEq, and_true] at e
      obtain ⟨rfl, rfl⟩ := e
      refine h1 _ ⟨.v (.int n), ?_⟩
      rw [gcdL_succ hn]
  · rintro G ⟨s, rfl⟩
    walk_at "pl"
    exact q _ ⟨ns, rfl, by rw [List.take_length]⟩
-- ### fraction
theorem fr_div {n d : Int} (h : 0 < d) : fr ((n : Rat) / (d : Rat)) = .tup [.int (n / (Int.gcd n d : Int)), .int (d / (Int.gcd n d : Int))] := by
  obtain ⟨h1, h2⟩ := divInt_pos (n := n) h
  unfold fr
  rw [h1, h2]
theorem div_neg2 (n d : Int) : ((-n : Int) : Rat) / ((-d : Int) : Rat) = (n : Rat) / (d : Rat) := by
  rw [Rat.intCast_neg, Rat.intCast_neg]
  grind
def fracP (ds : List PL.D) : Prop := ∃ n d : Int, ds = [.int n, .int d] ∧ d ≠ 0 ∧ d.natAbs < 2 ^ 8000
def fracQ (ds : List PL.D) (r : PL.D) : Prop := ∃ n d : Int, ds = [.int n, .int d] ∧ r = fr ((n : Rat) / (d : Rat))
def s_fraction : SpD := sRel fracP fracQ
theorem ok_fraction (ds : List PL.D) (x : XP) (Q : PL.D → Prop) (hl : ds.length = 2) (h : s_fraction ds x Q) : T_fraction s_common_divisor (startD 3 ds) x { nx := fun _ => Q .non, rt := Q } := by
  obtain ⟨⟨n, d, rfl, hd, hb⟩, q⟩ := h
  have q : Q (fr ((n : Rat) / (d : Rat))) := q _ ⟨n, d, rfl, rfl⟩
  have main : ∀ n d : Int, 0 < d → d.natAbs < 2 ^ 8000 → Q (fr ((n : Rat) / (d : Rat))) → (Q (.tup [.int n, .int 1]) ∨ d ≠ 1) ∧ ((CDivW n (Int.gcd n d) ∨ CDivN n (Int.gcd n d)) ∧ (CDivW d (Int.gcd n d) ∨ CDivN d (Int.gcd n d)) ∧ Q (.tup [.int (n.fdiv (Int.gcd n d)), .int (d.fdiv (Int.gcd n d))])) := by
    intro n d h hb q
    have g := gcd_pos (n := n) (d := d) (by omega)
    have gl := gcd_le (n := n) (d := d) (by omega)
    have gb : ((Int.gcd n d : Nat) : Int).natAbs < 2 ^ 8000 := by omega
    rw [fdiv_pos g, fdiv_pos g, ← fr_div h]
    refine ⟨?_, divw g gb (by decide), divw g gb (by decide), q⟩
    by_cases e : d = 1
    · subst e
      left
      have := q
      rw [fr_div (by decide)] at this
      simpa using this
    · exact .inr e
  unfold T_fraction s_common_divisor
  walk_at "pl"
  refine ⟨fun h => absurd h hd, fun _ => ⟨fun h => ?_, fun h => ?_⟩⟩
  · obtain ⟨m1, m2, m3, m4⟩ := main (-n) (-d) (by omega) (by rw [Int.natAbs_neg]; exact hb) (by rw [div_neg2]; exact q)
    refine ⟨fun e => ⟨by decide, m1.resolve_right (by omega)⟩, fun e => ⟨⟨_, _, rfl⟩, ?_⟩⟩
    rintro r ⟨a, b, e, rfl⟩
    simp only [List.cons.injEq, D.int.injEq, and_true] at e
    obtain ⟨rfl, rfl⟩ := e
    walk_at "pl"
    exact ⟨m2, m3, by decide, m4⟩
  · obtain ⟨m1, m2, m3, m4⟩ := main n d (by omega) hb q
    refine ⟨fun e => ⟨by decide, m1.resolve_right (by omega)⟩, fun e => ⟨⟨_, _, rfl⟩, ?_⟩⟩
    rintro r ⟨a, b, e, rfl⟩
    simp only [List.cons.injEq, D.int.injEq, and_true] at e
    obtain ⟨rfl, rfl⟩ := e
    walk_at "pl"
    exact ⟨m2, m3, by decide, m4⟩
-- ### plus
def twoP (ds : List PL.D) : Prop := ∃ p q : Rat, ds = [fr p, fr q] ∧ Bd 3990 p ∧ Bd 3990 q
def plusQ (ds : List PL.D) (r : PL.D) : Prop := ∃ p q : Rat, ds = [fr p, fr q] ∧ r = fr (p + q)
def timesQ (ds : List PL.D) (r : PL.D) : Prop := ∃ p q : Rat, ds = [fr p, fr q] ∧ r = fr (p * q)
def s_plus : SpD := sRel twoP plusQ
theorem mul_ne {a b : Int} (ha : 0 < a) (hb : 0 < b) : a * b ≠ 0 := by have := Int.mul_pos ha hb; omega
theorem ok_plus (ds : List PL.D) (x : XP) (Q : PL.D → Prop) (hl : ds.length = 2) (h : s_plus ds x Q) : T_plus s_fraction (startD 2 ds) x { nx := fun _ => Q .non, rt := Q } := by
  obtain ⟨⟨a, b, rfl, ha, hb⟩, q⟩ := h
  have q : Q (fr (a + b)) := q _ ⟨a, b, rfl, rfl⟩
  have da := den_pos a
  have db := den_pos b
  unfold T_plus s_fraction
  walk_at "pl"
  refine ⟨fun h => ⟨⟨_, _, rfl, by omega, lt_mono (a := 3990) ha.2 (by decide)⟩, ?_⟩, fun h => ⟨mulx (a := 3990) (b := 3990) ha.1 hb.2 (by decide), mulx (a := 3990) (b := 3990) hb.1 ha.2 (by decide), mulx (a := 3990) (b := 3990) ha.2 hb.2 (by decide), ⟨_, _, rfl, mul_ne da db, lt_mono (mul_lt (a := 3990) (b := 3990) ha.2 hb.2) (by decide)⟩, ?_⟩⟩
  · rintro r ⟨n, d, e, rfl⟩
    simp only [List.cons.injEq, D.int.injEq, and_true] at e
    obtain ⟨rfl, rfl⟩ := e
    have e2 : ((a.num + b.num : Int) : Rat) / ((a.den : Int) : Rat) = a + b := by
      have hp := num_eq a
      have hq := num_eq b
      have dp := den_ne a
      have h3 : (b.den : Rat) = (a.den : Rat) := by
        rw [show b.den = a.den by omega]
      rw [Rat.intCast_add, Rat.intCast_natCast]
      grind
    rw [e2]; exact q
  · rintro r ⟨n, d, e, rfl⟩
    simp only [List.cons.injEq, D.int.injEq, and_true] at e
    obtain ⟨rfl, rfl⟩ := e
    rw [← add_eq]; exact q
-- ### times
def s_times : SpD := sRel twoP timesQ
theorem ok_times (ds : List PL.D) (x : XP) (Q : PL.D → Prop) (hl : ds.length = 2) (h : s_times ds x Q) : T_times s_fraction (startD 2 ds) x { nx := fun _ => Q .non, rt := Q } := by
  obtain ⟨⟨a, b, rfl, ha, hb⟩, q⟩ := h
  have q : Q (fr (a * b)) := q _ ⟨a, b, rfl, rfl⟩
  have da := den_pos a
  have db := den_pos b
  unfold T_times s_fraction
  walk_at "pl"
  refine ⟨mulx (a := 3990) (b := 3990) ha.1 hb.1 (by decide), mulx (a := 3990) (b := 3990) ha.2 hb.2 (by decide), ⟨_, _, rfl, mul_ne da db, lt_mono (mul_lt (a := 3990) (b := 3990) ha.2 hb.2) (by decide)⟩, ?_⟩
  rintro r ⟨n, d, e, rfl⟩
  simp only [List.cons.injEq, D.int.injEq, and_true] at e
  obtain ⟨rfl, rfl⟩ := e
  rw [← mul_eq]; exact q
-- ### product
def dotZ : List (Rat × Rat) → Rat
  | [] => 0
  | z :: zs => z.1 * z.2 + dotZ zs
theorem dotZ_cons (z : Rat × Rat) (zs : List (Rat × Rat)) : dotZ (z :: zs) = z.1 * z.2 + dotZ zs := rfl
theorem dotZ_nil : dotZ [] = 0 := rfl
theorem dotZ_append : ∀ zs ws, dotZ (zs ++ ws) = dotZ zs + dotZ ws
  | [], ws => by rw [List.nil_append, dotZ_nil]; grind
  | z :: zs, ws => by
    rw [List.cons_append, dotZ_cons, dotZ_cons, dotZ_append zs ws]
    grind
theorem dotZ_succ {zs : List (Rat × Rat)} {i : Nat} {z : Rat × Rat} (h : zs[i]? = some z) : dotZ (zs.take (i + 1)) = dotZ (zs.take i) + z.1 * z.2 := by
  rw [List.take_add_one, h, dotZ_append]
  show _ + dotZ [z] = _
  rw [dotZ_cons, dotZ_nil]
  grind
def dot (ps qs : List Rat) : Rat := dotZ (ps.zip qs)
def pairF (z : Rat × Rat) : PL.D := .tup [fr z.1, fr z.2]
theorem paired_frs : ∀ ps qs : List Rat, paired (frs ps) (frs qs) = (ps.zip qs).map pairF
  | [], _ => by simp [paired, Fr.frs]
  | _ :: _, [] => by simp [paired, Fr.frs]
  | p :: ps, q :: qs => by
    have := paired_frs ps qs
    unfold paired Fr.frs at this ⊢
    rw [List.map_cons, List.map_cons, List.zipWith_cons_cons, this]
    rfl
def AllBd (B : Nat) (ps : List Rat) : Prop := ∀ p ∈ ps, Bd B p
theorem AllBd.mono {B C : Nat} {ps : List Rat} (h : AllBd B ps) (l : B ≤ C) : AllBd C ps := fun p m => (h p m).mono l
def prodP (ds : List PL.D) : Prop := ∃ ps qs : List Rat, ds = [.tup (frs ps), .tup (frs qs)] ∧ ps.length = qs.length ∧ ps.length ≤ 6 ∧ AllBd 200 ps ∧ AllBd 200 qs
def prodQ (ds : List PL.D) (r : PL.D) : Prop := ∃ ps qs : List Rat, ds = [.tup (frs ps), .tup (frs qs)] ∧ r = fr (dot ps qs)
def s_product : SpD := sRel prodP prodQ
theorem frs_inj {ps qs : List Rat} (h : frs ps = frs qs) : ps = qs := by
  induction ps generalizing qs with
  | nil => cases qs with
    | nil => rfl
    | cons q qs => simp [Fr.frs] at h
  | cons p ps ih => cases qs with
    | nil => simp [Fr.frs] at h
    | cons q qs =>
      rw [frs_cons, frs_cons, List.cons.injEq] at h
      rw [fr_inj h.1, ih h.2]
theorem ok_product (ds : List PL.D) (x : XP) (Q : PL.D → Prop) (hl : ds.length = 2) (h : s_product ds x Q) : T_product s_fraction (startD 8 ds) x { nx := fun _ => Q .non, rt := Q } := by
  obtain ⟨⟨ps, qs, rfl, hlen, hle, hp, hq⟩, q⟩ := h
  have q : Q (fr (dot ps qs)) := q _ ⟨ps, qs, rfl, rfl⟩
  unfold T_product s_fraction
  walk_at "pl"
  rw [paired_frs]
  refine loop_inv (f := pairF) (xs := ps.zip qs) (I := fun i G => ∃ t b s4 s5 s6 s7, G = [.v (.tup (frs ps)), .v (.tup (frs qs)), .v (.int t), .v (.int b), s4, s5, s6, s7] ∧ 0 < b ∧ b.natAbs < 2 ^ (400 * i + 1) ∧ t.natAbs < 2 ^ (401 * i + 1) ∧ (t : Rat) = dotZ ((ps.zip qs).take i) * (b : Rat)) ⟨0, 1, _, _, _, _, rfl, by decide, by decide, by decide, ?_⟩ ?_ ?_
  · show ((0 : Int) : Rat) = dotZ [] * ((1 : Int) : Rat)
    rw [dotZ_nil, Rat.zero_mul]
    rfl
  · rintro i ⟨p, r⟩ hz G ⟨t, b, s4, s5, s6, s7, rfl, hb, bb, bt, hv⟩
    refine ⟨_, rfl, fun E' h1 h2 h3 h4 => ?_⟩
    have mem := List.mem_of_getElem? hz
    have hp := hp p (List.of_mem_zip mem).1
    have hr := hq r (List.of_mem_zip mem).2
    have hi : i < 6 := by
      have := List.getElem?_eq_some_iff.mp hz
      obtain ⟨l, _⟩ := this
      rw [List.length_zip] at l
      omega
    walk_at "pl"
    refine ⟨mulx (a := 200) (b := 200) hp.1 hr.1 (by decide), mulx (a := 200) (b := 200) hp.2 hr.2 (by decide), ?_⟩
    have bn : (p.num * r.num).natAbs < 2 ^ 400 := mul_lt (a := 200) (b := 200) hp.1 hr.1
    have bd : ((p.den : Int) * r.den).natAbs < 2 ^ 400 := mul_lt (a := 200) (b := 200) hp.2 hr.2
    have d0 : 0 < (p.den : Int) * r.den := Int.mul_pos (den_pos p) (den_pos r)
    have hn : ((p.num * r.num : Int) : Rat) = p * r * (((p.den : Int) * r.den : Int) : Rat) := by
      have e := mul_eq p r
      have := cast_ne (d := (p.den : Int) * r.den) (by omega)
      grind
    rw [dotZ_succ hz] at h1
    generalize p.num * r.num = n at *
    generalize (p.den : Int) * r.den = d at *
    generalize dotZ (List.take i (ps.zip qs)) = S at *
    have fin : ∀ (t' b' : Int) (s4 s5 s6 s7 : Sl), 0 < b' → b'.natAbs < 2 ^ (400 * (i + 1) + 1) → t'.natAbs < 2 ^ (401 * (i + 1) + 1) → (t' : Rat) = (S + p * r) * (b' : Rat) → E'.nx [Sl.v (D.tup (Fr.frs ps)), Sl.v (D.tup (Fr.frs qs)), Sl.v (D.int t'), Sl.v (D.int b'), s4, s5, s6, s7] :=
      fun t' b' s4 s5 s6 s7 e1 e2 e3 e4 => h1 _ ⟨t', b', s4, s5, s6, s7, rfl, e1, e2, e3, e4⟩
    have bt1 : t.natAbs < 2 ^ (401 * (i + 1)) := lt_mono bt (by omega)
    have bt2 : t.natAbs < 2 ^ (401 * (i + 1) + 1) := lt_mono bt (by omega)
    have bb1 : b.natAbs < 2 ^ (400 * (i + 1) + 1) := lt_mono bb (by omega)
    by_cases hn0 : n = 0
    · have hpr : p * r = 0 := by
        have := cast_ne (d := d) (by omega)
        rw [hn0] at hn
        have e0 : ((0 : Int) : Rat) = 0 := rfl
        rw [e0] at hn
        grind
      have z := fun s4 s5 s6 s7 => fin t b s4 s5 s6 s7 hb bb1 bt2 (by rw [hpr]; grind)
      simp only [hn0, not_true_eq_false, false_implies, true_implies, true_and, and_true, implies_true]
      exact z _ _ _ _
    · simp only [hn0, not_false_eq_true, false_implies, true_implies, true_and, and_true, implies_true]
      refine ⟨fun e => ?_, fun ne => ⟨fun e => ?_, fun ne1 => ?_⟩⟩
      · refine fin _ _ _ _ _ _ hb bb1 ?_ ?_
        · exact natAbs_lt_add bt1 (lt_mono bn (by omega))
        · rw [e] at hn
          rw [Rat.intCast_add]
          grind
      · have bnb := mul_lt (a := 400) (b := 400 * i + 1) bn bb
        refine ⟨mulx (a := 400) (b := 400 * i + 1) bn bb (by omega), fin _ _ _ _ _ _ hb bb1 ?_ ?_⟩
        · exact natAbs_lt_add bt1 (lt_mono bnb (by omega))
        · rw [e] at hn
          have e1 : ((1 : Int) : Rat) = 1 := rfl
          rw [e1] at hn
          rw [Rat.intCast_add, Rat.intCast_mul]
          grind
      · have bnb := mul_lt (a := 400) (b := 400 * i + 1) bn bb
        have btd := mul_lt (a := 401 * i + 1) (b := 400) bt bd
        have bbd := mul_lt (a := 400 * i + 1) (b := 400) bb bd
        have hbd := Int.mul_pos hb d0
        have bsum : (t * d + n * b).natAbs < 2 ^ (401 * (i + 1) + 1) := natAbs_lt_add (lt_mono btd (by omega)) (lt_mono bnb (by omega))
        refine ⟨mulx (a := 401 * i + 1) (b := 400) bt bd (by omega), mulx (a := 400) (b := 400 * i + 1) bn bb (by omega), mulx (a := 400 * i + 1) (b := 400) bb bd (by omega), ⟨_, _, rfl, by omega, lt_mono bbd (by omega)⟩, ?_⟩
        rintro q' ⟨n', d', e, rfl⟩
        simp only [List.cons.injEq, D.int.injEq, and_true] at e
        obtain ⟨rfl, rfl⟩ := e
        have ev : ((t * d + n * b : Int) : Rat) / ((b * d : Int) : Rat) = S + p * r := by
          have k1 := cast_ne (d := b) (by omega)
          have k2 := cast_ne (d := d) (by omega)
          rw [Rat.intCast_add, Rat.intCast_mul, Rat.intCast_mul, Rat.intCast_mul]
          grind
        have bq := bd_div (A := 401 * (i + 1) + 1) (B := 400 * (i + 1) + 1) hbd bsum (lt_mono bbd (by omega))
        rw [ev] at bq ⊢
        walk_at "pl"
        refine fin _ _ _ _ _ _ (den_pos _) bq.2 bq.1 ?_
        rw [Rat.intCast_natCast]
        exact num_eq _
  · rintro G ⟨t, b, s4, s5, s6, s7, rfl, hb, bb, bt, hv⟩
    walk_at "pl"
    rw [List.take_length] at hv
    have hl6 : (ps.zip qs).length ≤ 6 := by rw [List.length_zip]; omega
    refine ⟨⟨_, _, rfl, by omega, lt_mono bb (by omega)⟩, ?_⟩
    rintro d ⟨n, m, e, rfl⟩
    simp only [List.cons.injEq, D.int.injEq, and_true] at e
    obtain ⟨rfl, rfl⟩ := e
    have : (t : Rat) / (b : Rat) = dot ps qs := by
      have := cast_ne (d := b) (by omega)
      unfold dot
      grind
    rw [this]; exact q
-- ### scaled
def scaleL (ps : List Rat) (x : Rat) : List Rat := ps.map (· * x)
def scaledP (ds : List PL.D) : Prop := ∃ (ps : List Rat) (x : Rat), ds = [.tup (frs ps), fr x] ∧ ps.length ≤ 6 ∧ AllBd 900 ps ∧ Bd 900 x
def scaledQ (ds : List PL.D) (r : PL.D) : Prop := ∃ (ps : List Rat) (x : Rat), ds = [.tup (frs ps), fr x] ∧ r = .tup (frs (scaleL ps x))
def s_scaled : SpD := sRel scaledP scaledQ
theorem ok_scaled (ds : List PL.D) (x : XP) (Q : PL.D → Prop) (hl : ds.length = 2) (h : s_scaled ds x Q) : T_scaled s_times (startD 3 ds) x { nx := fun _ => Q .non, rt := Q } := by
  obtain ⟨⟨ps, a, rfl, hle, hp, ha⟩, q⟩ := h
  have q := q _ ⟨ps, a, rfl, rfl⟩
  unfold T_scaled s_times
  walk_at "pl"
  refine ⟨by rw [frs_len]; unfold sizeLine; omega, ?_⟩
  refine comp_list (f := fr) (g := fun p => fr (p * a)) (fun p m => ⟨_, bind_nm, fun Q' q' => ?_⟩) ?_
  · walk_at "pl"
    refine ⟨⟨p, a, rfl, (hp p m).mono (by decide), ha.mono (by decide)⟩, ?_⟩
    rintro d ⟨p', a', e, rfl⟩
    simp only [List.cons.injEq, and_true] at e
    rw [← fr_inj e.1, ← fr_inj e.2]
    exact q'
  · walk_at "pl"
    unfold Fr.frs scaleL at q
    rw [List.map_map] at q
    exact q
-- ### added
def addL (ps qs : List Rat) : List Rat := (ps.zip qs).map fun z => z.1 + z.2
def addedP (ds : List PL.D) : Prop := ∃ ps qs : List Rat, ds = [.tup (frs ps), .tup (frs qs)] ∧ ps.length = qs.length ∧ ps.length ≤ 6 ∧ AllBd 900 ps ∧ AllBd 900 qs
def addedQ (ds : List PL.D) (r : PL.D) : Prop := ∃ ps qs : List Rat, ds = [.tup (frs ps), .tup (frs qs)] ∧ r = .tup (frs (addL ps qs))
def s_added : SpD := sRel addedP addedQ
theorem ok_added (ds : List PL.D) (x : XP) (Q : PL.D → Prop) (hl : ds.length = 2) (h : s_added ds x Q) : T_added s_plus (startD 4 ds) x { nx := fun _ => Q .non, rt := Q } := by
  obtain ⟨⟨ps, qs, rfl, hlen, hle, hp, hq⟩, q⟩ := h
  have q := q _ ⟨ps, qs, rfl, rfl⟩
  unfold T_added s_plus
  walk_at "pl"
  rw [paired_frs]
  refine ⟨by rw [List.length_map, List.length_zip]; unfold sizeLine; omega, ?_⟩
  refine comp_list (f := pairF) (g := fun z => fr (z.1 + z.2)) (fun z m => ?_) ?_
  · obtain ⟨a, b⟩ := z
    have hm := List.of_mem_zip m
    unfold pairF
    refine ⟨_, by rw [bind_tup, bindA_two], fun Q' q' => ?_⟩
    walk_at "pl"
    refine ⟨⟨a, b, rfl, (hp a hm.1).mono (by decide), (hq b hm.2).mono (by decide)⟩, ?_⟩
    rintro d ⟨p', a', e, rfl⟩
    simp only [List.cons.injEq, and_true] at e
    rw [← fr_inj e.1, ← fr_inj e.2]
    exact q'
  · walk_at "pl"
    unfold Fr.frs addL at q
    rw [List.map_map] at q
    exact q
-- ### whole_factor
theorem gcdF_scale (k : Nat) : ∀ (ns : List Int) (a : Nat), (ns.map fun n => (k : Int) * n).foldl (fun g n => Int.gcd (g : Int) n) (k * a) = k * ns.foldl (fun g n => Int.gcd (g : Int) n) a
  | [], a => rfl
  | n :: ns, a => by
    rw [List.map_cons, List.foldl_cons, List.foldl_cons]
    have : Int.gcd ((k * a : Nat) : Int) ((k : Int) * n) = k * Int.gcd (a : Int) n := by
      rw [Int.natCast_mul, Int.gcd_mul_left]
      rfl
    rw [this]
    exact gcdF_scale k ns _
theorem gcdL_scale (k : Nat) (ns : List Int) : gcdL (ns.map fun n => (k : Int) * n) = k * gcdL ns := by
  have := gcdF_scale k ns 0
  rw [Nat.mul_zero] at this
  exact this
theorem gcdF_dvd : ∀ (ns : List Int) (a : Nat), ns.foldl (fun g n => Int.gcd (g : Int) n) a ∣ a ∧ ∀ n ∈ ns, ((ns.foldl (fun g n => Int.gcd (g : Int) n) a : Nat) : Int) ∣ n
  | [], a => ⟨Nat.dvd_refl a, fun n m => by cases m⟩
  | n :: ns, a => by
    rw [List.foldl_cons]
    obtain ⟨h1, h2⟩ := gcdF_dvd ns (Int.gcd (a : Int) n)
    refine ⟨Nat.dvd_trans h1 ?_, fun n' m => ?_⟩
    · have := Int.gcd_dvd_left (a : Int) n
      exact Int.natCast_dvd_natCast.mp this
    · rcases List.mem_cons.mp m with rfl | m
      · exact Int.dvd_trans (Int.natCast_dvd_natCast.mpr h1) (Int.gcd_dvd_right (a : Int) n')
      · exact h2 n' m
theorem gcdL_dvd {ns : List Int} {n : Int} (h : n ∈ ns) : ((gcdL ns : Nat) : Int) ∣ n := (gcdF_dvd ns 0).2 n h
theorem gcdL_zero {ns : List Int} (h : gcdL ns = 0) {n : Int} (m : n ∈ ns) : n = 0 := by
  have := gcdL_dvd m
  rw [h] at this
  exact Int.zero_dvd.mp this
theorem gcdL_pos {ns : List Int} (h : gcdL ns ≠ 0) : ∃ n ∈ ns, n ≠ 0 := by
  refine Classical.byContradiction fun hn => h ?_
  have : ∀ n ∈ ns, n = 0 := fun n m => Classical.byContradiction fun e => hn ⟨n, m, e⟩
  have e : ns = ns.map fun n => ((0 : Nat) : Int) * n := by
    conv => lhs; rw [← List.map_id ns]
    refine List.map_congr_left fun n m => ?_
    rw [this n m]; rfl
  rw [e, gcdL_scale, Nat.zero_mul]
def wholes (vs : List Int) : List Rat := vs.map fun v : Int => (v : Rat)
def WRf (qs : List Rat) (f : Rat) (vs : List Int) : Prop := 0 < f ∧ wholes vs = scaleL qs f ∧ (gcdL vs = 1 ∨ gcdL vs = 0) ∧ ∀ B, AllBd B qs → Bd (7 * B + 1) f ∧ ∀ v ∈ vs, v.natAbs < 2 ^ (7 * B + 1)
def rowP (ds : List PL.D) : Prop := ∃ qs : List Rat, ds = [.tup (frs qs)] ∧ qs.length ≤ 6 ∧ AllBd 900 qs
def factorQ (ds : List PL.D) (r : PL.D) : Prop := ∃ (qs : List Rat) (f : Rat) (vs : List Int), ds = [.tup (frs qs)] ∧ r = fr f ∧ WRf qs f vs
def s_whole_factor : SpD := sRel rowP factorQ
theorem factor_math {qs : List Rat} {c : Int} (hc : 0 < c) (hd : ∀ q ∈ qs, (q.den : Int) ∣ c) (hb : ∀ B, AllBd B qs → c.natAbs < 2 ^ (6 * B + 1)) :
    (gcdL (qs.map fun q => q.num * (c / (q.den : Int))) ≠ 0 → ∃ vs, WRf qs ((c : Rat) / (((gcdL (qs.map fun q => q.num * (c / (q.den : Int))) : Nat) : Int) : Rat)) vs) ∧
    (gcdL (qs.map fun q => q.num * (c / (q.den : Int))) = 0 → ∃ vs, WRf qs 1 vs) ∧
    ∀ B, AllBd B qs → ∀ m ∈ qs.map (fun q => q.num * (c / (q.den : Int))), m.natAbs < 2 ^ (7 * B + 1) := by
  have hm : ∀ q ∈ qs, ((q.num * (c / (q.den : Int)) : Int) : Rat) = q * (c : Rat) := by
    intro q m
    obtain ⟨k, e⟩ := hd q m
    have dp := den_pos q
    have : c / (q.den : Int) = k := by
      rw [e]
      exact Int.mul_ediv_cancel_left k (by omega)
    rw [this, Rat.intCast_mul, num_eq q, e, Rat.intCast_mul, Rat.intCast_natCast]
    grind
  have hmb : ∀ B, AllBd B qs → ∀ m ∈ qs.map (fun q => q.num * (c / (q.den : Int))), m.natAbs < 2 ^ (7 * B + 1) := by
    intro B hB m mm
    obtain ⟨q, mq, rfl⟩ := List.mem_map.mp mm
    have e1 : (c / (q.den : Int)).natAbs < 2 ^ (6 * B + 1) := by
      refine Nat.lt_of_le_of_lt ?_ (hb B hB)
      rw [Int.natAbs_ediv_of_dvd (hd q mq)]
      exact Nat.div_le_self _ _
    have := mul_lt (a := B) (b := 6 * B + 1) (hB q mq).1 e1
    exact lt_mono this (by omega)
  refine ⟨fun hg => ?_, fun hg => ?_, hmb⟩
  · generalize hms : qs.map (fun q => q.num * (c / (q.den : Int))) = ms at *
    have hgp : (0 : Int) < (gcdL ms : Nat) := by omega
    have hsc : (ms.map fun m => m / ((gcdL ms : Nat) : Int)).map (fun n => ((gcdL ms : Nat) : Int) * n) = ms := by
      rw [List.map_map]
      conv => rhs; rw [← List.map_id ms]
      refine List.map_congr_left fun n m => ?_
      exact Int.mul_ediv_cancel' (gcdL_dvd m)
    refine ⟨ms.map fun m => m / ((gcdL ms : Nat) : Int), ?_, ?_, .inl ?_, fun B hB => ⟨?_, ?_⟩⟩
    · have h1 : (0 : Rat) < (c : Rat) := by exact_mod_cast hc
      have h2 : (0 : Rat) < (((gcdL ms : Nat) : Int) : Rat) := by exact_mod_cast hgp
      rw [Rat.div_def]
      exact Rat.mul_pos h1 (Rat.inv_pos.mpr h2)
    · unfold wholes scaleL
      rw [← hms, List.map_map, List.map_map]
      refine List.map_congr_left fun q m => ?_
      show ((q.num * (c / (q.den : Int)) / _ : Int) : Rat) = _
      have e1 : (((gcdL ms : Nat) : Int) * (q.num * (c / (q.den : Int)) / ((gcdL ms : Nat) : Int)) : Int) = q.num * (c / (q.den : Int)) := by
        refine Int.mul_ediv_cancel' (gcdL_dvd ?_)
        rw [← hms]
        exact List.mem_map.mpr ⟨q, m, rfl⟩
      have e2 := congrArg (fun z : Int => (z : Rat)) e1
      rw [Rat.intCast_mul, hm q m] at e2
      have := cast_ne (d := ((gcdL ms : Nat) : Int)) (by omega)
      rw [hms]
      grind
    · have := gcdL_scale (gcdL ms) (ms.map fun m => m / ((gcdL ms : Nat) : Int))
      rw [hsc] at this
      have h3 : gcdL ms * gcdL (ms.map fun m => m / ((gcdL ms : Nat) : Int)) = gcdL ms * 1 := by omega
      exact Nat.eq_of_mul_eq_mul_left (by omega) h3
    · obtain ⟨n, mn, n0⟩ := gcdL_pos hg
      have hle : gcdL ms ≤ n.natAbs := Nat.le_of_dvd (by omega) (Int.ofNat_dvd_left.mp (gcdL_dvd mn))
      have hn := hmb B hB n mn
      have := bd_div (n := c) (d := ((gcdL ms : Nat) : Int)) (A := 6 * B + 1) (B := 7 * B + 1) hgp (hb B hB) (by omega)
      exact ⟨Nat.lt_of_lt_of_le this.1 (Nat.pow_le_pow_right (by decide) (by omega)), this.2⟩
    · intro v mv
      obtain ⟨n, mn, rfl⟩ := List.mem_map.mp mv
      refine Nat.lt_of_le_of_lt ?_ (hmb B hB n mn)
      rw [Int.natAbs_ediv_of_dvd (gcdL_dvd mn)]
      exact Nat.div_le_self _ _
  · refine ⟨qs.map fun q => q.num * (c / (q.den : Int)), by decide, ?_, .inr hg, fun B hB => ⟨Bd.one.mono (by omega), hmb B hB⟩⟩
    unfold wholes scaleL
    rw [List.map_map]
    refine List.map_congr_left fun q m => ?_
    show ((q.num * (c / (q.den : Int)) : Int) : Rat) = _
    have z := gcdL_zero hg (List.mem_map.mpr ⟨q, m, rfl⟩)
    have h := hm q m
    rw [z] at h ⊢
    have h0 := cast_ne (d := c) (by omega)
    have e0 : ((0 : Int) : Rat) = 0 := rfl
    rw [e0] at h ⊢
    grind
theorem dvd_help {c d g k e : Int} (h : c = g * k) (h2 : d = g * e) : c * e = d * k := by
  subst h h2
  grind
theorem frs_get {qs : List Rat} {q : PL.D} (h : q ∈ frs qs) : ∃ p ∈ qs, q = fr p := by
  unfold Fr.frs at h
  obtain ⟨p, m, rfl⟩ := List.mem_map.mp h
  exact ⟨p, m, rfl⟩
theorem ok_whole_factor (ds : List PL.D) (x : XP) (Q : PL.D → Prop) (hl : ds.length = 1) (h : s_whole_factor ds x Q) : T_whole_factor s_common_divisor s_divisor_of s_fraction (fr 1) (startD 4 ds) x { nx := fun _ => Q .non, rt := Q } := by
  obtain ⟨⟨qs, rfl, hle, hq⟩, q⟩ := h
  unfold T_whole_factor s_common_divisor s_divisor_of s_fraction
  walk_at "pl"
  refine loop_inv (f := fr) (xs := qs) (I := fun i G => ∃ c s2 s3, G = [.v (.tup (frs qs)), .v (.int c), s2, s3] ∧ 0 < c ∧ (∀ B, AllBd B qs → c.natAbs < 2 ^ (i * B + 1)) ∧ ∀ j p, j < i → qs[j]? = some p → (p.den : Int) ∣ c) ⟨1, _, _, rfl, by decide, fun B _ => ?_, fun j p h => absurd h (Nat.not_lt_zero j)⟩ ?_ ?_
  · rw [Nat.zero_mul]; decide
  · rintro i p hp G ⟨c, s2, s3, rfl, hc, hb, hd⟩
    refine ⟨_, bind_nm, fun E' h1 h2 h3 h4 => ?_⟩
    have mem := List.mem_of_getElem? hp
    have hi : i < 6 := by
      obtain ⟨l, _⟩ := List.getElem?_eq_some_iff.mp hp
      omega
    have dp := den_pos p
    walk_at "pl"
    refine ⟨⟨_, _, rfl⟩, ?_⟩
    rintro d ⟨a, b, e, rfl⟩
    simp only [List.cons.injEq, D.int.injEq, and_true] at e
    obtain ⟨rfl, rfl⟩ := e
    walk_at "pl"
    have gp := gcd_pos (n := c) (d := (p.den : Int)) (by omega)
    have gl := gcd_le (n := c) (d := (p.den : Int)) (by omega)
    have pb := (hq p mem).2
    rw [fdiv_pos gp]
    have e1 : ((p.den : Int) / (Int.gcd c (p.den : Int) : Int)).natAbs ≤ p.den := by
      rw [Int.natAbs_ediv_of_dvd (Int.gcd_dvd_right ..)]
      exact Nat.div_le_self _ _
    have e2 : 0 < (p.den : Int) / (Int.gcd c (p.den : Int) : Int) := Int.ediv_pos_of_pos_of_dvd dp (by omega) (Int.gcd_dvd_right ..)
    refine ⟨divw gp (b := 900) (Nat.lt_of_le_of_lt gl pb) (by decide), mulx (a := i * 900 + 1) (b := 900) (hb 900 hq) (Nat.lt_of_le_of_lt e1 pb) (by omega), h1 _ ⟨_, _, _, rfl, Int.mul_pos hc e2, fun B hB => ?_, fun j r hj hr => ?_⟩⟩
    · have := mul_lt (a := i * B + 1) (b := B) (hb B hB) (Nat.lt_of_le_of_lt e1 (hB p mem).2)
      refine lt_mono this ?_
      rw [Nat.succ_mul]; omega
    · rcases Nat.lt_or_ge j i with l | l
      · exact Int.dvd_trans (hd j r l hr) (Int.dvd_mul_right _ _)
      · have : j = i := by omega
        subst this
        rw [hp] at hr
        cases hr
        obtain ⟨k, ek⟩ := Int.gcd_dvd_left c (p.den : Int)
        have e3 : (p.den : Int) = (Int.gcd c (p.den : Int) : Int) * ((p.den : Int) / (Int.gcd c (p.den : Int) : Int)) := (Int.mul_ediv_cancel' (Int.gcd_dvd_right c (p.den : Int))).symm
        exact ⟨k, dvd_help ek e3⟩
  · rintro G ⟨c, s2, s3, rfl, hc, hb, hd⟩
    have hd' : ∀ p ∈ qs, (p.den : Int) ∣ c := by
      intro p m
      obtain ⟨j, l, e⟩ := List.mem_iff_getElem.mp m
      exact hd j p l (by rw [List.getElem?_eq_getElem l, e])
    have hb' : ∀ B, AllBd B qs → c.natAbs < 2 ^ (6 * B + 1) := fun B hB => lt_mono (hb B hB) (by have := Nat.mul_le_mul_right B hle; omega)
    obtain ⟨f1, f2, f3⟩ := factor_math hc hd' hb'
    walk_at "pl"
    refine ⟨by rw [frs_len]; unfold sizeLine; omega, ?_⟩
    refine comp_list (f := fr) (xs := qs) (g := fun p => .int (p.num * (c / (p.den : Int)))) (fun p m => ⟨_, bind_nm, fun Q' q' => ?_⟩) ?_
    · walk_at "pl"
      have dp := den_pos p
      have pb := hq p m
      rw [fdiv_pos dp]
      refine ⟨divw dp (b := 900) pb.2 (by decide), ?_, q'⟩
      have e1 : (c / (p.den : Int)).natAbs ≤ c.natAbs := by
        rw [Int.natAbs_ediv_of_dvd (hd' p m)]
        exact Nat.div_le_self _ _
      exact mulx (a := 900) (b := 6 * 900 + 1) pb.1 (Nat.lt_of_le_of_lt e1 (hb' 900 hq)) (by decide)
    · walk_at "pl"
      have em : (qs.map fun p => D.int (p.num * (c / (p.den : Int)))) = (qs.map fun p => p.num * (c / (p.den : Int))).map D.int := by rw [List.map_map]; rfl
      rw [em]
      refine ⟨⟨_, rfl⟩, ?_⟩
      rintro d ⟨ns, e, rfl⟩
      have en : qs.map (fun p => p.num * (c / (p.den : Int))) = ns := by
        simp only [List.cons.injEq, D.lst.injEq, and_true] at e
        exact List.map_inj_right (fun a b h => by cases h; rfl) |>.mp e
      rw [en] at f1 f2 f3
      walk_at "pl"
      refine ⟨fun hg => ⟨⟨_, _, rfl, by omega, ?_⟩, ?_⟩, fun hg => ?_⟩
      · obtain ⟨n, mn, n0⟩ := gcdL_pos (ns := ns) (by omega)
        have hle : gcdL ns ≤ n.natAbs := Nat.le_of_dvd (by omega) (Int.ofNat_dvd_left.mp (gcdL_dvd mn))
        have hn : n.natAbs < 2 ^ 8000 := lt_mono (f3 900 hq n mn) (by decide)
        omega
      · rintro d ⟨a, b, e, rfl⟩
        simp only [List.cons.injEq, D.int.injEq, and_true] at e
        obtain ⟨rfl, rfl⟩ := e
        obtain ⟨vs, w⟩ := f1 (by omega)
        exact q _ ⟨qs, _, vs, rfl, rfl, w⟩
      · obtain ⟨vs, w⟩ := f2 (by omega)
        exact q _ ⟨qs, _, vs, rfl, rfl, w⟩
-- ### whole_row
def WR (qs : List Rat) (vs : List Int) : Prop := ∃ f, WRf qs f vs
theorem tup_frs_inj {ps qs : List Rat} (h : [D.tup (frs ps)] = [D.tup (frs qs)]) : ps = qs := by
  simp only [List.cons.injEq, D.tup.injEq, and_true] at h
  exact frs_inj h
def wrowQ (ds : List PL.D) (r : PL.D) : Prop := ∃ (qs : List Rat) (vs : List Int), ds = [.tup (frs qs)] ∧ r = .tup (vs.map .int) ∧ WR qs vs
def s_whole_row : SpD := sRel rowP wrowQ
theorem div_exact {q f : Rat} {v : Int} (h : (v : Rat) = q * f) : (q.num * f.num).fdiv ((q.den : Int) * (f.den : Int)) = v := by
  have h1 := num_eq q
  have h2 := num_eq f
  have d0 := Int.mul_pos (den_pos q) (den_pos f)
  have e : q.num * f.num = v * ((q.den : Int) * (f.den : Int)) := by
    have : ((q.num * f.num : Int) : Rat) = ((v * ((q.den : Int) * (f.den : Int)) : Int) : Rat) := by
      rw [Rat.intCast_mul, Rat.intCast_mul, Rat.intCast_mul, Rat.intCast_natCast, Rat.intCast_natCast]
      grind
    exact Rat.intCast_inj.mp this
  rw [fdiv_pos d0, e]
  exact Int.mul_ediv_cancel _ (by omega)
theorem div_rows {f : Rat} : ∀ {qs : List Rat} {vs : List Int}, wholes vs = scaleL qs f → qs.map (fun p => D.int ((p.num * f.num).fdiv ((p.den : Int) * (f.den : Int)))) = vs.map .int
  | [], [], _ => rfl
  | [], v :: vs, h => by simp [wholes, scaleL] at h
  | p :: ps, [], h => by simp [wholes, scaleL] at h
  | p :: ps, v :: vs, h => by
    unfold wholes scaleL at h
    rw [List.map_cons, List.map_cons, List.cons.injEq] at h
    rw [List.map_cons, List.map_cons, div_exact h.1, div_rows h.2]
theorem ok_whole_row (ds : List PL.D) (x : XP) (Q : PL.D → Prop) (hl : ds.length = 1) (h : s_whole_row ds x Q) : T_whole_row s_whole_factor (startD 3 ds) x { nx := fun _ => Q .non, rt := Q } := by
  obtain ⟨⟨qs, rfl, hle, hq⟩, q⟩ := h
  unfold T_whole_row s_whole_factor
  walk_at "pl"
  refine ⟨⟨qs, rfl, hle, hq⟩, ?_⟩
  rintro d ⟨qs', f, vs, e, rfl, w⟩
  have e := tup_frs_inj e
  subst e
  have q := q _ ⟨qs, vs, rfl, rfl, f, w⟩
  obtain ⟨fp, we, wg, wb⟩ := w
  have fb := (wb 900 hq).1
  walk_at "pl"
  refine ⟨by rw [frs_len]; unfold sizeLine; omega, ?_⟩
  refine comp_list (f := fr) (xs := qs) (g := fun p => .int ((p.num * f.num).fdiv ((p.den : Int) * (f.den : Int)))) (fun p m => ⟨_, bind_nm, fun Q' q' => ?_⟩) ?_
  · walk_at "pl"
    have d0 := Int.mul_pos (den_pos p) (den_pos f)
    have pb := hq p m
    exact ⟨mulx (a := 900) (b := 7 * 900 + 1) pb.1 fb.1 (by decide), mulx (a := 900) (b := 7 * 900 + 1) pb.2 fb.2 (by decide), divw d0 (mul_lt (a := 900) (b := 7 * 900 + 1) pb.2 fb.2) (by decide), q'⟩
  · walk_at "pl"
    rw [div_rows we]
    exact q
theorem WR.len {qs : List Rat} {vs : List Int} (h : WR qs vs) : vs.length = qs.length := by
  obtain ⟨f, _, e, _⟩ := h
  have := congrArg List.length e
  unfold wholes scaleL at this
  rw [List.length_map, List.length_map] at this
  exact this
theorem WR.bd {qs : List Rat} {vs : List Int} (h : WR qs vs) {B : Nat} (hb : AllBd B qs) : AllBd (7 * B + 1) (wholes vs) := by
  obtain ⟨f, _, e, _, b⟩ := h
  intro p m
  obtain ⟨v, mv, rfl⟩ := List.mem_map.mp m
  refine ⟨?_, ?_⟩
  · rw [Rat.num_intCast]; exact (b B hb).2 v mv
  · rw [Rat.den_intCast]; exact Nat.one_lt_two_pow (by omega)
theorem WR.at {qs : List Rat} {vs : List Int} (h : WR qs vs) : ∃ f : Rat, 0 < f ∧ ∀ (i : Nat) (v : Int) (q : Rat), vs[i]? = some v → qs[i]? = some q → (v : Rat) = q * f := by
  obtain ⟨f, p, e, _⟩ := h
  refine ⟨f, p, fun i v q hv hq => ?_⟩
  have e := congrArg (fun l => l[i]?) e
  unfold wholes scaleL at e
  simp only [List.getElem?_map, hv, hq, Option.map_some, Option.some.injEq] at e
  exact e
/-- the row in the direction of another is the same one -/
theorem wr_unique {qs rs : List Rat} {vs ws : List Int} (x : Rat) (hx : 0 < x) (hr : rs = scaleL qs x) (h1 : WR qs vs) (h2 : WR rs ws) : vs = ws := by
  have l1 := h1.len
  have l2 := h2.len
  have lr : rs.length = qs.length := by rw [hr]; unfold scaleL; rw [List.length_map]
  obtain ⟨f, fp, fe, fg, _⟩ := h1
  obtain ⟨g, gp, ge, gg, _⟩ := h2
  -- a ws = b vs for whole a, b > 0
  have key : ∃ a b : Nat, 0 < a ∧ 0 < b ∧ (ws.map fun w => (a : Int) * w) = vs.map fun v => (b : Int) * v := by
    have tp : 0 < f / (x * g) := by
      rw [Rat.div_def]
      exact Rat.mul_pos fp (Rat.inv_pos.mpr (Rat.mul_pos hx gp))
    generalize ht : f / (x * g) = t at tp
    have te := num_eq t
    have tn : 0 < t.num := by
      have d0 : (0 : Rat) < (t.den : Rat) := by exact_mod_cast t.den_pos
      have : (0 : Rat) < (t.num : Rat) := by rw [te]; exact Rat.mul_pos tp d0
      exact_mod_cast this
    refine ⟨t.num.toNat, t.den, by omega, t.den_pos, ?_⟩
    have tz : (t.num.toNat : Int) = t.num := by omega
    rw [tz]
    refine List.ext_getElem (by rw [List.length_map, List.length_map]; omega) fun i i1 i2 => ?_
    rw [List.getElem_map, List.getElem_map]
    rw [List.length_map] at i1 i2
    have ev := congrArg (fun l => l[i]?) fe
    have ew := congrArg (fun l => l[i]?) ge
    subst hr
    unfold wholes scaleL at ev ew
    have iq : i < qs.length := by omega
    simp only [List.getElem?_map, List.getElem?_eq_getElem i1, List.getElem?_eq_getElem i2, List.getElem?_eq_getElem iq, Option.map_some, Option.some.injEq] at ev ew
    refine Rat.intCast_inj.mp ?_
    rw [Rat.intCast_mul, Rat.intCast_mul, ev, ew, te, Rat.intCast_natCast, ← ht]
    have x0 : x ≠ 0 := by intro e; rw [e] at hx; exact absurd hx (by decide)
    have g0 : g ≠ 0 := by intro e; rw [e] at gp; exact absurd gp (by decide)
    grind
  obtain ⟨a, b, ap, bp, e⟩ := key
  have eg : a * gcdL ws = b * gcdL vs := by rw [← gcdL_scale, ← gcdL_scale, e]
  have zero : gcdL ws = 0 → gcdL vs = 0 → vs = ws := by
    intro z1 z2
    refine List.ext_getElem (by omega) fun i i1 i2 => ?_
    rw [gcdL_zero z1 (List.getElem_mem i2), gcdL_zero z2 (List.getElem_mem i1)]
  rcases fg with f1 | f0
  · rcases gg with g1 | g0
    · rw [f1, g1] at eg
      have : a = b := by omega
      subst this
      have := List.map_inj_right (f := fun w : Int => (a : Int) * w) (fun x y h => Int.eq_of_mul_eq_mul_left (by omega) h) |>.mp e
      exact this.symm
    · rw [f1, g0] at eg; omega
  · rcases gg with g1 | g0
    · rw [f0, g1] at eg; omega
    · exact zero g0 f0
theorem wr_neg {qs : List Rat} {vs : List Int} (h : WR qs vs) : WR (scaleL qs (-1)) (vs.map fun v => -v) := by
  obtain ⟨f, fp, fe, fg, fb⟩ := h
  have gneg : gcdL (vs.map fun v => -v) = gcdL vs := by
    have aux : ∀ (ns : List Int) (a : Nat), (ns.map fun v => -v).foldl (fun g n => Int.gcd (g : Int) n) a = ns.foldl (fun g n => Int.gcd (g : Int) n) a := by
      intro ns
      induction ns with
      | nil => intro a; rfl
      | cons n ns ih => intro a; rw [List.map_cons, List.foldl_cons, List.foldl_cons, Int.gcd_neg]; exact ih _
    exact aux vs 0
  refine ⟨f, fp, ?_, by rw [gneg]; exact fg, fun B hB => ?_⟩
  · unfold wholes scaleL at fe ⊢
    rw [List.map_map, List.map_map]
    have e1 : (List.map ((fun v : Int => (v : Rat)) ∘ fun v => -v) vs) = (vs.map fun v : Int => (v : Rat)).map fun p => -p := by
      rw [List.map_map]
      refine List.map_congr_left fun v _ => ?_
      exact Rat.intCast_neg ..
    rw [e1, fe, List.map_map]
    refine List.map_congr_left fun v _ => ?_
    show -(v * f) = v * (-1) * f
    grind
  · have hB' : AllBd B qs := by
      intro p m
      have := hB (p * (-1)) (List.mem_map.mpr ⟨p, m, rfl⟩)
      have e : p = -(p * (-1)) := by grind
      rw [e]
      exact this.neg
    refine ⟨(fb B hB').1, fun v m => ?_⟩
    obtain ⟨u, mu, rfl⟩ := List.mem_map.mp m
    rw [Int.natAbs_neg]
    exact (fb B hB').2 u mu
-- ### _law_pick
def pickP (ds : List PL.D) : Prop := ∃ xs : List PL.D, (ds = [.bag, .lst xs] ∨ ds = [.bag, .tup xs]) ∧ 0 < xs.length ∧ xs.length < 2 ^ 64
def pickQ (ds : List PL.D) (r : PL.D) : Prop := ∃ xs : List PL.D, (ds = [.bag, .lst xs] ∨ ds = [.bag, .tup xs]) ∧ r ∈ xs
def s_law_pick : SpD := sRel pickP pickQ
theorem mem_at {xs : List PL.D} {i : Int} (h0 : 0 ≤ i) (h1 : i < xs.length) : ∃ d, atI xs i = some d ∧ d ∈ xs := by
  have l : i.toNat < xs.length := by omega
  exact ⟨xs[i.toNat], atI_of h0 (List.getElem?_eq_getElem l), List.getElem_mem l⟩
theorem ok_law_pick (ds : List PL.D) (x : XP) (Q : PL.D → Prop) (hl : ds.length = 2) (h : s_law_pick ds x Q) : T_law_pick s_draw (startD 2 ds) x { nx := fun _ => Q .non, rt := Q } := by
  obtain ⟨⟨xs, e, h0, h1⟩, q⟩ := h
  unfold T_law_pick s_draw
  rcases e with rfl | rfl
  all_goals
    walk_at "pl"
    refine ⟨⟨_, rfl, by omega, by omega⟩, ?_⟩
    rintro d ⟨top, i, e, rfl, i0, i1⟩
    simp only [List.cons.injEq, D.int.injEq, and_true, true_and] at e
    subst e
    obtain ⟨d, ed, md⟩ := mem_at i0 i1
    exact ⟨d, ed, q d ⟨xs, by simp, md⟩⟩
-- ### _law_same
def Deep : Nat → PL.D → Prop
  | 0, _ => False
  | n + 1, .tup xs => xs.length ≤ sizeLine ∧ ∀ x ∈ xs, Deep n x
  | n + 1, .lst xs => xs.length ≤ sizeLine ∧ ∀ x ∈ xs, Deep n x
  | n + 1, .non => True
  | n + 1, .bl _ => True
  | n + 1, .int _ => True
  | n + 1, .str _ => True
  | _, _ => False
def s_same (n : Nat) : SpD := sRel (fun ds => ∃ d, ds = [d, d] ∧ Deep n d) (fun _ r => r = .bl true)
theorem paired_self (xs : List PL.D) : paired xs xs = xs.map fun d => .tup [d, d] := by
  unfold paired
  induction xs with
  | nil => rfl
  | cons d xs ih => rw [List.zipWith_cons_cons, List.map_cons, ih]
theorem all_true {α : Type} (xs : List α) : (xs.map fun _ => PL.D.bl true) = (xs.map fun _ => true).map PL.D.bl := by
  rw [List.map_map]; rfl
theorem all_all {α : Type} (xs : List α) : (xs.map fun _ => true).all id = true := by
  induction xs with
  | nil => rfl
  | cons d xs ih => simpa using ih
theorem ok_law_same (n : Nat) (ds : List PL.D) (x : XP) (Q : PL.D → Prop) (hl : ds.length = 2) (h : s_same (n + 1) ds x Q) : T_law_same (s_same n) (startD 4 ds) x { nx := fun _ => Q .non, rt := Q } := by
  obtain ⟨⟨d, rfl, hd⟩, q⟩ := h
  have q1 := q _ rfl
  have seqs : ∀ (xs : List PL.D) (Gw : Gm) (y : XP), xs.length ≤ sizeLine → (∀ x ∈ xs, Deep n x) → (∃ a b, Gw = [a, b, .un, .un]) →
      compD (.tup [.nm 2, .nm 3]) (fun _ _ Q => Q true) (dCall 2 (s_same n) [] (aCons (dVar 2) (aCons (dVar 3) aNil))) Gw y (paired xs xs) [] fun ds => bAll [.lst ds] Q := by
    rintro xs _ y hx hs ⟨a, b, rfl⟩
    rw [paired_self]
    refine comp_list (f := fun d => .tup [d, d]) (xs := xs) (g := fun _ => .bl true) (fun d m => ⟨_, by rw [bind_tup, bindA_two], fun Q' q' => ?_⟩) ?_
    · unfold s_same
      walk_at "pl"
      exact ⟨⟨d, rfl, hs d m⟩, q'⟩
    · rw [List.nil_append, all_true]
      exact ⟨_, rfl, by rw [all_all]; exact q1⟩
  unfold T_law_same
  have two : 2 ≤ sizeLine := by decide
  cases d with
  | tup xs =>
    simp only [Deep] at hd
    walk_at "pl"
    refine ⟨two, fun h => absurd trivial h, fun h => absurd trivial h, ⟨?_, seqs xs _ _ hd.1 hd.2 ⟨_, _, rfl⟩⟩, fun h => absurd trivial h⟩
    rw [paired_self, List.length_map]; exact hd.1
  | lst xs =>
    simp only [Deep] at hd
    walk_at "pl"
    refine ⟨two, fun h => absurd trivial h, fun h => absurd trivial h, ⟨?_, seqs xs _ _ hd.1 hd.2 ⟨_, _, rfl⟩⟩, fun h => absurd trivial h⟩
    rw [paired_self, List.length_map]; exact hd.1
  | non => walk_at "pl"; exact ⟨two, two, q1⟩
  | bl b => walk_at "pl"; exact ⟨two, two, by rw [decide_eq_true trivial]; exact q1⟩
  | int b => walk_at "pl"; exact ⟨two, two, by rw [decide_eq_true trivial]; exact q1⟩
  | str b => walk_at "pl"; exact ⟨two, two, by rw [decide_eq_true trivial]; exact q1⟩
  | _ => exact hd.elim
-- ### _law_is_whole
def s_law_is_whole : SpD := sRel (fun ds => ∃ v : Int, ds = [.int v]) (fun _ r => r = .bl true)
theorem ok_law_is_whole (ds : List PL.D) (x : XP) (Q : PL.D → Prop) (hl : ds.length = 1) (h : s_law_is_whole ds x Q) : T_law_is_whole (startD 1 ds) x { nx := fun _ => Q .non, rt := Q } := by
  obtain ⟨⟨v, rfl⟩, q⟩ := h
  unfold T_law_is_whole
  walk_at "pl"
  exact q _ rfl
-- ### _law_common
def s_law_common : SpD := s_common_divisor
theorem ok_law_common (ds : List PL.D) (x : XP) (Q : PL.D → Prop) (hl : ds.length = 2) (h : s_law_common ds x Q) : T_law_common (startD 4 ds) x { nx := fun _ => Q .non, rt := Q } := by
  obtain ⟨⟨a, b, rfl⟩, q⟩ := h
  unfold T_law_common
  walk_at "pl"
  refine ⟨fun m G => ∃ x y : Int, 0 ≤ x ∧ 0 ≤ y ∧ y.toNat = m ∧ Int.gcd x y = Int.gcd a b ∧ G = [.v (.int a), .v (.int b), .v (.int x), .v (.int y)], ?_, ?_⟩
  · exact ⟨_, a.natAbs, b.natAbs, by omega, by omega, rfl, rfl, rfl⟩
  · rintro m G ⟨x, y, hx, hy, hm, hg, rfl⟩
    walk_at "pl"
    refine ⟨fun hy1 => ?_, fun h => ?_⟩
    · have hy0 : y ≠ 0 := by omega
      refine ⟨hy0, _, ?_, y, _, hy, ?_, rfl, ?_, rfl⟩
      · have := Int.emod_lt_of_pos x hy1
        have := Int.emod_nonneg x hy0
        rw [fmod_pos hy1]
        omega
      · rw [fmod_pos hy1]
        exact Int.emod_nonneg x hy0
      · rw [gcd_mod hy1, hg]
    · have hy0 : y = 0 := by omega
      subst hy0
      refine q _ ⟨a, b, rfl, ?_⟩
      rw [← hg, Int.gcd_zero_right]
      congr 1
      omega
-- ### _law_low
def lowP (ds : List PL.D) : Prop := ∃ n d : Int, ds = [.int n, .int d] ∧ 0 < d ∧ d.natAbs < 2 ^ 8000
def s_law_low : SpD := sRel lowP fracQ
theorem ok_law_low (ds : List PL.D) (x : XP) (Q : PL.D → Prop) (hl : ds.length = 2) (h : s_law_low ds x Q) : T_law_low s_law_common (startD 3 ds) x { nx := fun _ => Q .non, rt := Q } := by
  obtain ⟨⟨n, d, rfl, hd, hb⟩, q⟩ := h
  have q : Q (fr ((n : Rat) / (d : Rat))) := q _ ⟨n, d, rfl, rfl⟩
  have g := gcd_pos (n := n) (d := d) (by omega)
  have gl := gcd_le (n := n) (d := d) (by omega)
  have gb : ((Int.gcd n d : Nat) : Int).natAbs < 2 ^ 8000 := by omega
  unfold T_law_low s_law_common s_common_divisor
  walk_at "pl"
  refine ⟨⟨_, _, rfl⟩, ?_⟩
  rintro r ⟨a, b, e, rfl⟩
  simp only [List.cons.injEq, D.int.injEq, and_true] at e
  obtain ⟨rfl, rfl⟩ := e
  walk_at "pl"
  refine ⟨fun h => by omega, fun _ => ⟨divw g gb (by decide), divw g gb (by decide), by decide, ?_⟩⟩
  rw [fdiv_pos g, fdiv_pos g, ← fr_div hd]
  exact q
-- ### _law_plus
def s_law_plus : SpD := sRel twoP plusQ
theorem ok_law_plus (ds : List PL.D) (x : XP) (Q : PL.D → Prop) (hl : ds.length = 2) (h : s_law_plus ds x Q) : T_law_plus s_law_low (startD 2 ds) x { nx := fun _ => Q .non, rt := Q } := by
  obtain ⟨⟨a, b, rfl, ha, hb⟩, q⟩ := h
  have q : Q (fr (a + b)) := q _ ⟨a, b, rfl, rfl⟩
  have da := den_pos a
  have db := den_pos b
  unfold T_law_plus s_law_low
  walk_at "pl"
  refine ⟨mulx (a := 3990) (b := 3990) ha.1 hb.2 (by decide), mulx (a := 3990) (b := 3990) hb.1 ha.2 (by decide), mulx (a := 3990) (b := 3990) ha.2 hb.2 (by decide), ⟨_, _, rfl, Int.mul_pos da db, lt_mono (mul_lt (a := 3990) (b := 3990) ha.2 hb.2) (by decide)⟩, ?_⟩
  rintro r ⟨n, d, e, rfl⟩
  simp only [List.cons.injEq, D.int.injEq, and_true] at e
  obtain ⟨rfl, rfl⟩ := e
  rw [← add_eq]; exact q
-- ### _law_times
def s_law_times : SpD := sRel twoP timesQ
theorem ok_law_times (ds : List PL.D) (x : XP) (Q : PL.D → Prop) (hl : ds.length = 2) (h : s_law_times ds x Q) : T_law_times s_law_low (startD 2 ds) x { nx := fun _ => Q .non, rt := Q } := by
  obtain ⟨⟨a, b, rfl, ha, hb⟩, q⟩ := h
  have q : Q (fr (a * b)) := q _ ⟨a, b, rfl, rfl⟩
  have da := den_pos a
  have db := den_pos b
  unfold T_law_times s_law_low
  walk_at "pl"
  refine ⟨mulx (a := 3990) (b := 3990) ha.1 hb.1 (by decide), mulx (a := 3990) (b := 3990) ha.2 hb.2 (by decide), ⟨_, _, rfl, Int.mul_pos da db, lt_mono (mul_lt (a := 3990) (b := 3990) ha.2 hb.2) (by decide)⟩, ?_⟩
  rintro r ⟨n, d, e, rfl⟩
  simp only [List.cons.injEq, D.int.injEq, and_true] at e
  obtain ⟨rfl, rfl⟩ := e
  rw [← mul_eq]; exact q
-- ### _law_dot
def s_law_dot : SpD := sRel prodP prodQ
theorem ok_law_dot (ds : List PL.D) (x : XP) (Q : PL.D → Prop) (hl : ds.length = 2) (h : s_law_dot ds x Q) : T_law_dot s_law_low (startD 6 ds) x { nx := fun _ => Q .non, rt := Q } := by
  obtain ⟨⟨ps, qs, rfl, hlen, hle, hp, hq⟩, q⟩ := h
  have q : Q (fr (dot ps qs)) := q _ ⟨ps, qs, rfl, rfl⟩
  unfold T_law_dot s_law_low
  walk_at "pl"
  refine ⟨by decide, ?_⟩
  rw [paired_frs]
  refine loop_inv (f := pairF) (xs := ps.zip qs) (I := fun i G => ∃ t b s4 s5, G = [.v (.tup (frs ps)), .v (.tup (frs qs)), .v (.int t), .v (.int b), s4, s5] ∧ 0 < b ∧ b.natAbs < 2 ^ (400 * i + 1) ∧ t.natAbs < 2 ^ (401 * i + 1) ∧ (t : Rat) = dotZ ((ps.zip qs).take i) * (b : Rat)) ⟨0, 1, _, _, rfl, by decide, by decide, by decide, ?_⟩ ?_ ?_
  · show ((0 : Int) : Rat) = dotZ [] * ((1 : Int) : Rat)
    rw [dotZ_nil, Rat.zero_mul]
    rfl
  · rintro i ⟨p, r⟩ hz G ⟨t, b, s4, s5, rfl, hb, bb, bt, hv⟩
    refine ⟨_, rfl, fun E' h1 h2 h3 h4 => ?_⟩
    have mem := List.mem_of_getElem? hz
    have hp := hp p (List.of_mem_zip mem).1
    have hr := hq r (List.of_mem_zip mem).2
    have hi : i < 6 := by
      have := List.getElem?_eq_some_iff.mp hz
      obtain ⟨l, _⟩ := this
      rw [List.length_zip] at l
      omega
    walk_at "pl"
    have hp2 : (p.den : Int).natAbs < 2 ^ 200 := hp.2
    have hr2 : (r.den : Int).natAbs < 2 ^ 200 := hr.2
    have b1 := mul_lt (a := 401 * i + 1) (b := 200) bt hp2
    have b2 := mul_lt (a := 401 * i + 1 + 200) (b := 200) b1 hr2
    have b3 := mul_lt (a := 200) (b := 200) hp.1 hr.1
    have b4 := mul_lt (a := 200 + 200) (b := 400 * i + 1) b3 bb
    have b5 := mul_lt (a := 400 * i + 1) (b := 200) bb hp2
    have b6 := mul_lt (a := 400 * i + 1 + 200) (b := 200) b5 hr2
    have dp := den_pos p
    have dr := den_pos r
    refine ⟨mulx (a := 401 * i + 1) (b := 200) bt hp.2 (by omega), mulx (a := 401 * i + 1 + 200) (b := 200) b1 hr.2 (by omega), mulx (a := 200) (b := 200) hp.1 hr.1 (by omega), mulx (a := 200 + 200) (b := 400 * i + 1) b3 bb (by omega), mulx (a := 400 * i + 1) (b := 200) bb hp.2 (by omega), mulx (a := 400 * i + 1 + 200) (b := 200) b5 hr.2 (by omega), ?_⟩
    refine h1 _ ⟨_, _, _, _, rfl, Int.mul_pos (Int.mul_pos hb dp) dr, lt_mono b6 (by omega), natAbs_lt_add (lt_mono b2 (by omega)) (lt_mono b4 (by omega)), ?_⟩
    rw [dotZ_succ hz]
    have n1 := num_eq p
    have n2 := num_eq r
    rw [Rat.intCast_add, Rat.intCast_mul, Rat.intCast_mul, Rat.intCast_mul, Rat.intCast_mul, Rat.intCast_mul, Rat.intCast_mul, Rat.intCast_natCast, Rat.intCast_natCast]
    grind
  · rintro G ⟨t, b, s4, s5, rfl, hb, bb, bt, hv⟩
    walk_at "pl"
    rw [List.take_length] at hv
    have hl6 : (ps.zip qs).length ≤ 6 := by rw [List.length_zip]; omega
    refine ⟨⟨_, _, rfl, by omega, lt_mono bb (by omega)⟩, ?_⟩
    rintro d ⟨n, m, e, rfl⟩
    simp only [List.cons.injEq, D.int.injEq, and_true] at e
    obtain ⟨rfl, rfl⟩ := e
    have : (t : Rat) / (b : Rat) = dot ps qs := by
      have := cast_ne (d := b) (by omega)
      unfold dot
      grind
    rw [this]; exact q
-- ### _law_small
theorem pick_lst {xs : List PL.D} {r : PL.D} (h : pickQ [.bag, .lst xs] r) : r ∈ xs := by
  obtain ⟨ys, e, m⟩ := h
  rcases e with e | e
  · simp only [List.cons.injEq, D.lst.injEq, and_true, true_and] at e
    rw [e]; exact m
  · simp at e
theorem bd_frac {n d : Int} {B : Nat} (h : 0 < d) (hn : n.natAbs < 2 ^ B) (hd : d.natAbs < 2 ^ B) : Bd B ((n : Rat) / (d : Rat)) := bd_div h hn hd
def s_law_small : SpD := sRel (fun ds => ds = [.bag]) (fun _ r => ∃ q : Rat, r = fr q ∧ Bd 30 q)
theorem ok_law_small (ds : List PL.D) (x : XP) (Q : PL.D → Prop) (hl : ds.length = 1) (h : s_law_small ds x Q) : T_law_small s_draw s_law_low s_law_pick (startD 1 ds) x { nx := fun _ => Q .non, rt := Q } := by
  obtain ⟨rfl, q⟩ := h
  unfold T_law_small s_draw s_law_low s_law_pick
  walk_at "pl"
  refine ⟨⟨19, rfl, by decide, by decide⟩, ?_⟩
  rintro d ⟨top, i, e, rfl, i0, i1⟩
  simp only [List.cons.injEq, D.int.injEq, and_true, true_and] at e
  subst e
  walk_at "pl"
  refine ⟨by decide, ⟨_, .inl rfl, by decide, by decide⟩, ?_⟩
  intro d hd
  have hd := pick_lst hd
  have : ∃ k : Int, d = .int k ∧ 0 < k ∧ k ≤ 4 := by
    simp only [List.mem_cons, List.not_mem_nil, or_false] at hd
    rcases hd with rfl | rfl | rfl | rfl | rfl | rfl <;> exact ⟨_, rfl, by decide, by decide⟩
  obtain ⟨k, rfl, k0, k1⟩ := this
  refine ⟨⟨_, _, rfl, k0, Nat.lt_of_lt_of_le (show k.natAbs < 2 ^ 30 by omega) (Nat.pow_le_pow_right (by decide) (by decide))⟩, ?_⟩
  rintro r ⟨n, d, e, rfl⟩
  simp only [List.cons.injEq, D.int.injEq, and_true] at e
  obtain ⟨rfl, rfl⟩ := e
  exact q _ ⟨_, rfl, bd_frac k0 (by omega) (by omega)⟩
-- ### _law_fraction
def s_law_fraction : SpD := sRel (fun ds => ds = [.bag]) (fun _ r => ∃ q : Rat, r = fr q ∧ Bd 30 q)
theorem ok_law_fraction (ds : List PL.D) (x : XP) (Q : PL.D → Prop) (hl : ds.length = 1) (h : s_law_fraction ds x Q) : T_law_fraction s_draw s_law_low s_law_pick (startD 2 ds) x { nx := fun _ => Q .non, rt := Q } := by
  obtain ⟨rfl, q⟩ := h
  unfold T_law_fraction s_draw s_law_low s_law_pick
  walk_at "pl"
  refine ⟨by decide, ⟨_, .inl rfl, by decide, by decide⟩, ?_⟩
  intro d hd
  have hd := pick_lst hd
  have : ∃ k : Int, d = .int k ∧ 0 < k ∧ k ≤ 999999999 := by
    simp only [List.mem_cons, List.not_mem_nil, or_false] at hd
    rcases hd with rfl | rfl | rfl | rfl | rfl | rfl | rfl | rfl <;> exact ⟨_, rfl, by decide, by decide⟩
  obtain ⟨k, rfl, k0, k1⟩ := this
  walk_at "pl"
  refine ⟨mulx (a := 2) (b := 30) (by decide) (by omega) (by decide), ⟨_, rfl, by omega, by omega⟩, ?_⟩
  rintro d ⟨top, i, e, rfl, i0, i1⟩
  simp only [List.cons.injEq, D.int.injEq, and_true, true_and] at e
  subst e
  walk_at "pl"
  refine ⟨by decide, ⟨_, .inl rfl, Nat.succ_pos _, show 6 < 2 ^ 64 by decide⟩, ?_⟩
  intro d hd
  have hd := pick_lst hd
  have : ∃ m : Int, d = .int m ∧ 0 < m ∧ m ≤ 999999999 := by
    simp only [List.mem_cons, List.not_mem_nil, or_false] at hd
    rcases hd with rfl | rfl | rfl | rfl | rfl | rfl <;> exact ⟨_, rfl, by omega, by omega⟩
  obtain ⟨m, rfl, m0, m1⟩ := this
  refine ⟨⟨_, rfl, m0, by omega⟩, ?_⟩
  rintro d ⟨top, j, e, rfl, j0, j1⟩
  simp only [List.cons.injEq, D.int.injEq, and_true, true_and] at e
  subst e
  walk_at "pl"
  refine ⟨⟨_, _, rfl, by omega, Nat.lt_of_lt_of_le (show (1 + j).natAbs < 2 ^ 30 by omega) (Nat.pow_le_pow_right (by decide) (by decide))⟩, ?_⟩
  rintro r ⟨n, d, e, rfl⟩
  simp only [List.cons.injEq, D.int.injEq, and_true] at e
  obtain ⟨rfl, rfl⟩ := e
  exact q _ ⟨_, rfl, bd_frac (by omega) (by omega) (by omega)⟩
-- ### _law_row
theorem ix_fr0 {q : Rat} {P : PL.D → Prop} : oIx (fr q) (.int 0) P = P (.int q.num) := by
  unfold fr oIx
  simp only [atI_0, Option.some.injEq, exists_eq_left']
theorem ix_fr1 {q : Rat} {P : PL.D → Prop} : oIx (fr q) (.int 1) P = P (.int (q.den : Int)) := by
  unfold fr oIx
  simp only [atI_1, Option.some.injEq, exists_eq_left']
local macro_rules | `(tactic| walk_at "pk") => `(tactic| simp only [sSeq, sSet, sIf, sRet, sRetN, sNext, sPar, sAsg, sDrop, sNever, dVar, dC, dOp, dUn, dTest, dTru, dAnd, dOr, dNot, dAndV, dOrV, dNotV, dIf, dChain, dCB, dCall, dCallK, aNil, aCons, dTup, dNew, fLst, fLc, tAll, sRel, sFor, PL.iItems, PL.iRange1, PL.iRange2, PL.iZip2,
  bAbs, bLen, bInt, bTuple, PL.ix_tup, PL.ix_lst, PL.add_int, PL.add_lst, PL.add_tup, PL.mul_int, PL.mul_lst, PL.oI_int, PL.oI0_int, PL.uI_int, PL.eq_int, PL.eq_bl, PL.eq_str, PL.ne_int, PL.ne_bl, PL.ne_str, oIs, oIsNot, D.isNon,
  startD, wipeD, bind_nm, bind_tup, bindA_nil, bindA_one, bindA_two, bindA_three, List.map_cons, List.map_nil, List.length_cons, List.length_nil, List.replicate, List.cons_append, List.nil_append, List.append_nil, List.getElem?_cons_zero, List.getElem?_cons_succ, List.set_cons_zero, List.set_cons_succ, setAllD, List.zip_cons_cons, List.zip_nil_left, List.zip_nil_right, List.zip, List.zipWith,
  gPick, List.filterMap_cons, List.filterMap_nil,
  atI_0, atI_1, Option.some.injEq, exists_eq_left', ix_fr0, ix_fr1, decide_eq_true_eq, decide_eq_false_iff_not, forall_eq, Bool.not_eq_true, Bool.not_eq_false, Bool.not_true, Bool.not_false, Bool.not_eq_true', Bool.not_eq_false',
  isi_non_list, isi_non_tuple, isi_non_bool, isi_non_int, isi_non_str, isi_non_seq, isi_bl_list, isi_bl_tuple, isi_bl_bool, isi_bl_int, isi_bl_str, isi_bl_seq, isi_int_list, isi_int_tuple, isi_int_bool, isi_int_int, isi_int_str, isi_int_seq, isi_str_list, isi_str_tuple, isi_str_bool, isi_str_int, isi_str_str, isi_str_seq, isi_tup_list, isi_tup_tuple, isi_tup_bool, isi_tup_int, isi_tup_str, isi_tup_seq, isi_lst_list, isi_lst_tuple, isi_lst_bool, isi_lst_int, isi_lst_str, isi_lst_seq, Bool.or_false, Bool.or_true, Bool.true_or, Bool.false_or, Bool.false_eq_true, Bool.true_eq_false,
  Nat.reduceAdd, Nat.reduceSub, true_and, and_true, forall_const, forall_eq', reduceCtorEq, false_implies, implies_true, true_implies, not_true_eq_false, not_false_eq_true, Int.toNat_natCast, List.length_map, List.length_range])
def s_law_row : SpD := sRel (fun ds => ∃ n : Nat, ds = [.bag, .int n] ∧ n ≤ 6) (fun ds r => ∃ (n : Nat) (qs : List Rat), ds = [.bag, .int n] ∧ r = .tup (frs qs) ∧ qs.length = n ∧ AllBd 30 qs)
theorem ranged_0 (n : Nat) : ranged 0 n = (List.range n).map fun i => PL.D.int ((i : Nat) : Int) := by
  unfold ranged
  refine List.map_congr_left fun i _ => ?_
  rw [Int.zero_add]
theorem all2_bd {α : Type} {xs : List α} {B : Nat} {qs : List Rat} (h : All2 (fun _ q => Bd B q) xs qs) : AllBd B qs := fun q m => by
  obtain ⟨_, _, r⟩ := h.mem q m
  exact r
theorem ok_law_row (ds : List PL.D) (x : XP) (Q : PL.D → Prop) (hl : ds.length = 2) (h : s_law_row ds x Q) : T_law_row s_draw s_law_fraction s_law_small (startD 7 ds) x { nx := fun _ => Q .non, rt := Q } := by
  obtain ⟨⟨n, rfl, hn⟩, q⟩ := h
  have q : ∀ qs : List Rat, qs.length = n → AllBd 30 qs → Q (.tup (qs.map fr)) := fun qs l b => q _ ⟨n, qs, rfl, rfl, l, b⟩
  have r1 : -(2 ^ 62) ≤ (n : Int) ∧ (n : Int) < 2 ^ 62 := by omega
  have r2 : (ranged 0 n).length ≤ sizeLine := by rw [ranged_0, List.length_map, List.length_range]; unfold sizeLine; omega
  unfold T_law_row s_draw s_law_fraction s_law_small
  walk_at "pk"
  refine ⟨⟨_, rfl, by decide, by decide⟩, ?_⟩
  rintro d ⟨top, i, e, rfl, i0, i1⟩
  simp only [List.cons.injEq, D.int.injEq, and_true, true_and] at e
  subst e
  walk_at "pk"
  refine ⟨fun _ => ⟨r1, r2, ?_⟩, fun _ => ⟨⟨_, rfl, by decide, by decide⟩, ?_⟩⟩
  · rw [ranged_0]
    refine comp_list (xs := List.range n) (g := fun _ => fr 0) (fun p m => ⟨_, bind_nm, fun Q' q' => ?_⟩) ?_
    · walk_at "pk"
      exact ⟨by decide, q'⟩
    · have := q (List.replicate n 0) (List.length_replicate ..) (fun p m => by rw [(List.mem_replicate.mp m).2]; exact Bd.zero.mono (by decide))
      rw [List.nil_append]
      rw [List.map_replicate] at this
      rw [List.map_const', List.length_range]
      exact this
  · rintro d ⟨top, j, e, rfl, j0, j1⟩
    simp only [List.cons.injEq, D.int.injEq, and_true, true_and] at e
    subst e
    walk_at "pk"
    refine ⟨r1, r2, ?_⟩
    rw [ranged_0]
    refine comp_rel (xs := List.range n) (h := fr) (R := fun _ q => Bd 30 q) (fun p m => ⟨_, bind_nm, fun Q' q' => ?_⟩) ?_
    · walk_at "pk"
      exact ⟨fun _ d ⟨r, er, br⟩ => by rw [er]; exact q' r br, fun _ d ⟨r, er, br⟩ => by rw [er]; exact q' r br⟩
    · intro ys hy
      have hlen := hy.length
      rw [List.length_range] at hlen
      have hb := all2_bd hy
      walk_at "pk"
      refine ⟨fun _ => ⟨fun hp => ⟨⟨_, rfl, hp, by omega⟩, ?_⟩, fun _ => q ys hlen.symm hb⟩, fun _ => q ys hlen.symm hb⟩
      rintro d ⟨top, k, e, rfl, k0, k1⟩
      simp only [List.cons.injEq, D.int.injEq, and_true, true_and] at e
      subst e
      refine ⟨r1, by unfold sizeLine; omega, ?_⟩
      refine comp_rel (xs := List.range n) (h := fr) (R := fun _ q => Bd 30 q) (fun p m => ⟨_, bind_nm, fun Q' q' => ?_⟩) ?_
      · have hp := List.mem_range.mp m
        have l : p < ys.length := by omega
        walk_at "pk"
        refine ⟨fun _ => ⟨fr ys[p], atI_of (by omega) ?_, q' _ (hb _ (List.getElem_mem l))⟩, fun _ => ⟨by decide, q' 0 (Bd.zero.mono (by decide))⟩⟩
        rw [Int.toNat_natCast, List.getElem?_map, List.getElem?_eq_getElem l]
        rfl
      · intro zs hz
        have hlen := hz.length
        rw [List.length_range] at hlen
        exact q zs hlen.symm (all2_bd hz)
-- ### _law_whole_so
theorem at_map {α : Type} {f : α → PL.D} {xs : List α} {i : Int} {n : Nat} (e : i = (n : Int)) (h : n < xs.length) : atI (xs.map f) i = some (f xs[n]) := by
  refine atI_of (by omega) ?_
  rw [e, Int.toNat_natCast, List.getElem?_map, List.getElem?_eq_getElem h]
  rfl
theorem sign_help {v : Int} {p f : Rat} (fp : 0 < f) (np : ¬p.num = 0) (e : (v : Rat) = p * f) : 0 < v * p.num := by
  have hd := den_ne p
  have hn := num_eq p
  have d0 : (0 : Rat) < (p.den : Rat) := by exact_mod_cast p.den_pos
  have nn : 0 < p.num * p.num := by
    rcases Int.lt_or_gt_of_ne np with h | h
    · exact Int.mul_pos_of_neg_of_neg h h
    · exact Int.mul_pos h h
  have nn : (0 : Rat) < ((p.num * p.num : Int) : Rat) := by exact_mod_cast nn
  have e2 : ((v * p.num : Int) : Rat) = ((p.num * p.num : Int) : Rat) * (f * (p.den : Rat)⁻¹) := by
    rw [Rat.intCast_mul, Rat.intCast_mul, e]
    grind
  have : (0 : Rat) < ((v * p.num : Int) : Rat) := by
    rw [e2]
    exact Rat.mul_pos nn (Rat.mul_pos fp (Rat.inv_pos.mpr d0))
  exact_mod_cast this
theorem cross_help {v w : Int} {p q f : Rat} (ep : (v : Rat) = p * f) (eq : (w : Rat) = q * f) : v * q.num * (p.den : Int) = w * p.num * (q.den : Int) := by
  refine Rat.intCast_inj.mp ?_
  have h1 := num_eq p
  have h2 := num_eq q
  rw [Rat.intCast_mul, Rat.intCast_mul, Rat.intCast_mul, Rat.intCast_mul, Rat.intCast_natCast, Rat.intCast_natCast]
  grind
def s_law_whole_so : SpD := sRel rowP (fun _ r => r = .bl true)
theorem ok_law_whole_so (ds : List PL.D) (x : XP) (Q : PL.D → Prop) (hl : ds.length = 1) (h : s_law_whole_so ds x Q) : T_law_whole_so s_law_common s_law_is_whole s_whole_row (startD 7 ds) x { nx := fun _ => Q .non, rt := Q } := by
  obtain ⟨⟨qs, rfl, hle, hq⟩, q⟩ := h
  have q := q _ rfl
  unfold T_law_whole_so s_law_common s_law_is_whole s_whole_row s_common_divisor
  refine seq_gen fun U hU => ?_
  walk_at "pk"
  refine ⟨⟨qs, rfl, hle, hq⟩, ?_⟩
  rintro d ⟨qs', vs, e, rfl, w⟩
  have e := tup_frs_inj e
  subst e
  have vlen := w.len
  have vb := w.bd hq
  obtain ⟨f, fp, hf⟩ := w.at
  obtain ⟨f', fp', fe, fg, fb⟩ := w
  have hsz : vs.length ≤ sizeLine := by unfold sizeLine; omega
  have hsq : qs.length ≤ sizeLine := by unfold sizeLine; omega
  have hqv : ∀ i (h : i < qs.length), ((vs[i]'(by omega) : Int) : Rat) = qs[i] * f := fun i h => hf i _ _ (List.getElem?_eq_getElem _) (List.getElem?_eq_getElem _)
  have f0 : f ≠ 0 := by intro e; rw [e] at fp; exact absurd fp (by decide)
  clear hf
  subst hU
  refine seq_gen fun U hU => ?_
  walk_at "pk"
  refine ⟨fun h => absurd (by rw [frs_len, vlen]) h, fun _ => ⟨hsz, ?_⟩⟩
  refine comp_list (g := fun _ => .bl true) (fun v m => ⟨_, bind_nm, fun Q' q' => ?_⟩) ?_
  · walk_at "pk"
    exact ⟨⟨v, rfl⟩, q'⟩
  rw [List.nil_append, all_true]
  refine ⟨_, rfl, ?_⟩
  rw [all_all]
  walk_at "pk"
  subst hU
  refine seq_gen fun U hU => ?_
  walk_at "pk"
  refine ⟨by rw [frs_len]; exact hsq, ?_⟩
  refine comp_list (f := fr) (xs := qs) (g := fun p => .bl (decide (p.num = 0))) (fun v m => ⟨_, bind_nm, fun Q' q' => ?_⟩) ?_
  · walk_at "pk"
    exact q'
  rw [List.nil_append]
  have eb : (qs.map fun p => PL.D.bl (decide (p.num = 0))) = (qs.map fun p => decide (p.num = 0)).map PL.D.bl := by rw [List.map_map]; rfl
  rw [eb]
  refine ⟨_, rfl, ?_⟩
  walk_at "pk"
  refine ⟨fun hall => ⟨hsz, ?_⟩, fun hall => ?_⟩
  · refine comp_list (f := PL.D.int) (xs := vs) (g := fun v => .bl (decide (v = 0))) (fun v m => ⟨_, bind_nm, fun Q' q' => ?_⟩) ?_
    · walk_at "pk"
      exact q'
    rw [List.nil_append]
    have hz : ∀ v ∈ vs, v = 0 := by
      intro v m
      obtain ⟨i, l, rfl⟩ := List.mem_iff_getElem.mp m
      have e := hqv i (by omega)
      rw [List.all_map, List.all_eq_true] at hall
      have e2 := hall qs[i] (List.getElem_mem _)
      have e2 : (qs[i]).num = 0 := by simpa using e2
      rw [Rat.num_eq_zero.mp e2, Rat.zero_mul] at e
      exact Rat.intCast_eq_zero_iff.mp e
    have e2 : (vs.map fun v => PL.D.bl (decide (v = 0))) = vs.map fun _ => PL.D.bl true := List.map_congr_left fun v m => by rw [hz v m]; rfl
    rw [e2, all_true]
    exact ⟨_, rfl, by rw [all_all]; exact q⟩
  · have hnz : gcdL vs = 1 := by
      refine fg.resolve_right fun hz => ?_
      rw [List.all_map, List.all_eq_false] at hall
      obtain ⟨p, m, hp⟩ := hall
      obtain ⟨i, l, rfl⟩ := List.mem_iff_getElem.mp m
      have e := hqv i l
      have := gcdL_zero hz (List.getElem_mem (show i < vs.length by omega))
      rw [this] at e
      have e0 : ((0 : Int) : Rat) = 0 := rfl
      rw [e0] at e
      have : qs[i] = 0 := by grind
      simp [this] at hp
    subst hU
    refine seq_gen fun U hU => ?_
    walk_at "pk"
    subst hU
    refine seq_gen fun U hU => ?_
    walk_at "pk"
    refine loop_inv (f := D.int) (xs := vs) (I := fun i G => ∃ s, G = [.v (.tup (frs qs)), .v (.tup (vs.map D.int)), s, .v (.int (gcdL (vs.take i))), .un, .un, .un]) ⟨_, rfl⟩ ?_ ?_
    · rintro i v hn G ⟨s, rfl⟩
      refine ⟨_, bind_nm, fun E' h1 h2 h3 h4 => ?_⟩
      walk_at "pk"
      refine ⟨⟨_, _, rfl⟩, ?_⟩
      rintro d ⟨a, b, e, rfl⟩
      simp only [List.cons.injEq, D.int.injEq, and_true] at e
      obtain ⟨rfl, rfl⟩ := e
      refine h1 _ ⟨.v (.int v), ?_⟩
      rw [gcdL_succ hn]
    rintro G ⟨s, rfl⟩
    rw [List.take_length, hnz]
    dsimp only
    subst hU
    refine seq_gen fun U hU => ?_
    walk_at "pk"
    have r1 : -(2 ^ 62) ≤ ((frs qs).length : Int) ∧ ((frs qs).length : Int) < 2 ^ 62 := by rw [frs_len]; omega
    refine ⟨r1, ?_⟩
    rw [frs_len, ranged_0]
    refine ⟨by rw [List.length_map, List.length_range]; exact hsq, ?_⟩
    refine comp_filter (xs := List.range qs.length) (c := fun i => !decide ((qs.getD i 0).num = 0)) (g := fun i => .int (i : Nat)) (fun i m => ⟨_, bind_nm, fun Q' q' => ?_, fun Q' q' => ?_⟩) ?_
    · have l := List.mem_range.mp m
      rw [List.getD_eq_getElem?_getD, List.getElem?_eq_getElem l] at q'
      walk_at "pk"
      exact ⟨_, at_map rfl l, by walk_at "pk"; exact q'⟩
    · walk_at "pk"
      exact q'
    have hex : ∃ k rest, (List.range qs.length).filter (fun i => !decide ((qs.getD i 0).num = 0)) = k :: rest := by
      cases hc : (List.range qs.length).filter (fun i => !decide ((qs.getD i 0).num = 0)) with
      | cons k rest => exact ⟨k, rest, rfl⟩
      | nil =>
        rw [List.filter_eq_nil_iff] at hc
        rw [List.all_map, List.all_eq_false] at hall
        obtain ⟨p, m, hp⟩ := hall
        obtain ⟨i, l, rfl⟩ := List.mem_iff_getElem.mp m
        have := hc i (List.mem_range.mpr l)
        rw [List.getD_eq_getElem?_getD, List.getElem?_eq_getElem l] at this
        simp at this hp
        exact absurd this hp
    obtain ⟨k, rest, hk⟩ := hex
    have hkm : k ∈ (List.range qs.length).filter (fun i => !decide ((qs.getD i 0).num = 0)) := by rw [hk]; exact List.mem_cons_self ..
    rw [hk]
    have hkm := List.mem_filter.mp hkm
    have lk : k < qs.length := List.mem_range.mp hkm.1
    have lv : k < vs.length := by omega
    have nk := hkm.2
    rw [List.getD_eq_getElem?_getD, List.getElem?_eq_getElem lk] at nk
    have nk : ¬(qs[k]).num = 0 := by simpa using nk
    have bk := hq qs[k] (List.getElem_mem lk)
    have ek := hqv k lk
    have bvk : (vs[k]).natAbs < 2 ^ 6301 := (fb 900 hq).2 _ (List.getElem_mem lv)
    walk_at "pk"
    subst hU
    refine seq_gen fun U hU => ?_
    walk_at "pk"
    refine ⟨fun h => absurd rfl h, fun _ => ⟨_, at_map rfl lv, _, at_map rfl lk, ?_⟩⟩
    walk_at "pk"
    have pos := sign_help fp nk ek
    refine ⟨mulx (a := 6301) (b := 900) bvk bk.1 (by decide), fun h => by omega, fun _ => ?_⟩
    subst hU
    walk_at "pk"
    refine ⟨r1, ?_⟩
    rw [frs_len, ranged_0]
    refine ⟨by rw [List.length_map, List.length_range]; exact hsq, ?_⟩
    refine comp_list (xs := List.range qs.length) (g := fun _ => .bl true) (fun i m => ⟨_, bind_nm, fun Q' q' => ?_⟩) ?_
    · have li := List.mem_range.mp m
      have liv : i < vs.length := by omega
      have ei := hqv i li
      have bi := hq qs[i] (List.getElem_mem li)
      have bvi : (vs[i]).natAbs < 2 ^ 6301 := (fb 900 hq).2 _ (List.getElem_mem liv)
      walk_at "pk"
      refine ⟨_, at_map rfl liv, _, at_map rfl lk, ?_⟩
      walk_at "pk"
      refine ⟨mulx (a := 6301) (b := 900) bvi bk.1 (by decide), _, at_map rfl li, ?_⟩
      walk_at "pk"
      refine ⟨mulx (a := 6301 + 900) (b := 900) (mul_lt bvi bk.1) bi.2 (by decide), _, at_map rfl lv, _, at_map rfl li, ?_⟩
      walk_at "pk"
      refine ⟨mulx (a := 6301) (b := 900) bvk bi.1 (by decide), _, at_map rfl lk, ?_⟩
      walk_at "pk"
      refine ⟨mulx (a := 6301 + 900) (b := 900) (mul_lt bvk bi.1) bk.2 (by decide), ?_⟩
      rw [decide_eq_true (cross_help ei ek)]
      exact q'
    rw [List.nil_append, all_true]
    exact ⟨_, rfl, by rw [all_all]; exact q⟩
-- ### _law_two_so
theorem prodQ_eq {a b : List Rat} {d : PL.D} : prodQ [.tup (frs a), .tup (frs b)] d = (d = fr (dot a b)) := by
  refine propext ⟨fun ⟨p, q, e, h⟩ => ?_, fun h => ⟨a, b, rfl, h⟩⟩
  simp only [List.cons.injEq, D.tup.injEq, and_true] at e
  rw [frs_inj e.1, frs_inj e.2]; exact h
theorem addedQ_eq {a b : List Rat} {d : PL.D} : addedQ [.tup (frs a), .tup (frs b)] d = (d = .tup (frs (addL a b))) := by
  refine propext ⟨fun ⟨p, q, e, h⟩ => ?_, fun h => ⟨a, b, rfl, h⟩⟩
  simp only [List.cons.injEq, D.tup.injEq, and_true] at e
  rw [frs_inj e.1, frs_inj e.2]; exact h
theorem scaledQ_eq {a : List Rat} {b : Rat} {d : PL.D} : scaledQ [.tup (frs a), fr b] d = (d = .tup (frs (scaleL a b))) := by
  refine propext ⟨fun ⟨p, q, e, h⟩ => ?_, fun h => ⟨a, b, rfl, h⟩⟩
  simp only [List.cons.injEq, D.tup.injEq, and_true] at e
  rw [frs_inj e.1, fr_inj e.2]; exact h
theorem plusQ_eq {a b : Rat} {d : PL.D} : plusQ [fr a, fr b] d = (d = fr (a + b)) := by
  refine propext ⟨fun ⟨p, q, e, h⟩ => ?_, fun h => ⟨a, b, rfl, h⟩⟩
  simp only [List.cons.injEq, and_true] at e
  rw [fr_inj e.1, fr_inj e.2]; exact h
theorem timesQ_eq {a b : Rat} {d : PL.D} : timesQ [fr a, fr b] d = (d = fr (a * b)) := by
  refine propext ⟨fun ⟨p, q, e, h⟩ => ?_, fun h => ⟨a, b, rfl, h⟩⟩
  simp only [List.cons.injEq, and_true] at e
  rw [fr_inj e.1, fr_inj e.2]; exact h
theorem deep_mono : ∀ {n : Nat} {d : PL.D}, Deep n d → Deep (n + 1) d
  | 0, _, h => h.elim
  | n + 1, .tup xs, h => ⟨h.1, fun x m => deep_mono (h.2 x m)⟩
  | n + 1, .lst xs, h => ⟨h.1, fun x m => deep_mono (h.2 x m)⟩
  | n + 1, .non, h => trivial
  | n + 1, .bl _, h => trivial
  | n + 1, .int _, h => trivial
  | n + 1, .str _, h => trivial
  | n + 1, .scr _, h => h.elim
  | n + 1, .bag, h => h.elim
  | n + 1, .ty _, h => h.elim
  | n + 1, .cls _, h => h.elim
theorem deep_fr (q : Rat) : Deep 2 (fr q) := ⟨by show 2 ≤ sizeLine; decide, fun x m => by
  simp only [List.mem_cons, List.not_mem_nil, or_false] at m
  rcases m with rfl | rfl
  · exact trivial
  · exact trivial⟩
theorem deep_frs {qs : List Rat} (h : qs.length ≤ 6) : Deep 3 (.tup (frs qs)) := ⟨by rw [frs_len]; unfold sizeLine; omega, fun x m => by
  obtain ⟨p, _, rfl⟩ := frs_get m
  exact deep_fr p⟩
theorem deep_ints {vs : List Int} (h : vs.length ≤ 6) : Deep 2 (.tup (vs.map .int)) := ⟨by rw [List.length_map]; unfold sizeLine; omega, fun x m => by
  obtain ⟨p, _, rfl⟩ := List.mem_map.mp m
  exact trivial⟩
theorem deep_lst {n : Nat} {xs : List PL.D} (h : xs.length ≤ 6) (hx : ∀ x ∈ xs, Deep n x) : Deep (n + 1) (.lst xs) := ⟨by unfold sizeLine; omega, hx⟩
theorem dotZ_comm : ∀ ps qs : List Rat, dotZ (ps.zip qs) = dotZ (qs.zip ps)
  | [], qs => by rw [List.zip_nil_left, List.zip_nil_right]
  | p :: ps, [] => rfl
  | p :: ps, q :: qs => by
    rw [List.zip_cons_cons, List.zip_cons_cons, dotZ_cons, dotZ_cons, dotZ_comm ps qs, Rat.mul_comm]
theorem dot_comm (ps qs : List Rat) : dot ps qs = dot qs ps := dotZ_comm ps qs
theorem scaleL_len (ps : List Rat) (x : Rat) : (scaleL ps x).length = ps.length := by unfold scaleL; rw [List.length_map]
theorem addL_len {ps qs : List Rat} (h : ps.length = qs.length) : (addL ps qs).length = ps.length := by unfold addL; rw [List.length_map, List.length_zip]; omega
theorem addL_comm : ∀ ps qs : List Rat, addL ps qs = addL qs ps
  | [], qs => by unfold addL; rw [List.zip_nil_left, List.zip_nil_right]
  | p :: ps, [] => rfl
  | p :: ps, q :: qs => by
    have := addL_comm ps qs
    unfold addL at this ⊢
    rw [List.zip_cons_cons, List.zip_cons_cons, List.map_cons, List.map_cons, this, Rat.add_comm]
theorem scaleL_bd {A B : Nat} {ps : List Rat} {x : Rat} (h : AllBd A ps) (hx : Bd B x) : AllBd (A + B) (scaleL ps x) := fun p m => by
  obtain ⟨q, mq, rfl⟩ := List.mem_map.mp m
  exact (h q mq).mul hx
theorem addL_bd {A B : Nat} {ps qs : List Rat} (h : AllBd A ps) (hq : AllBd B qs) : AllBd (A + B + 1) (addL ps qs) := fun p m => by
  obtain ⟨⟨a, b⟩, mz, rfl⟩ := List.mem_map.mp m
  have := List.of_mem_zip mz
  exact (h a this.1).add (hq b this.2)
/-- the multiples of a row, as a comprehension makes them -/
theorem comp_scale {ps : List Rat} {a : Rat} {i j : Nat} {te : TD} {Gw : Gm} {x : XP} {Q : List PL.D → Prop}
    (ht : ∀ p ∈ ps, ∀ Q : PL.D → Prop, Q (fr (p * a)) → te (setAllD Gw [(i, fr p)]) x Q) (q : Q (frs (scaleL ps a))) : compD (.nm i) tAll te Gw x (frs ps) [] Q := by
  refine comp_list (f := fr) (xs := ps) (g := fun p => fr (p * a)) (fun p m => ⟨_, bind_nm, ht p m⟩) ?_
  rw [List.nil_append]
  unfold Fr.frs scaleL at q
  rw [List.map_map] at q
  exact q
theorem comp_add {ps qs : List Rat} {i j : Nat} {te : TD} {Gw : Gm} {x : XP} {Q : List PL.D → Prop}
    (ht : ∀ p ∈ ps, ∀ q ∈ qs, ∀ Q : PL.D → Prop, Q (fr (p + q)) → te (setAllD Gw [(i, fr p), (j, fr q)]) x Q) (q : Q (frs (addL ps qs))) : compD (.tup [.nm i, .nm j]) tAll te Gw x (paired (frs ps) (frs qs)) [] Q := by
  rw [paired_frs]
  refine comp_list (f := pairF) (xs := ps.zip qs) (g := fun z => fr (z.1 + z.2)) (fun z m => ⟨_, by unfold pairF; rw [bind_tup, bindA_two], ?_⟩) ?_
  · obtain ⟨a, b⟩ := z
    have := List.of_mem_zip m
    exact ht a this.1 b this.2
  rw [List.nil_append]
  unfold Fr.frs addL at q
  rw [List.map_map] at q
  exact q
theorem fr_m1 : PL.D.tup [.int (-1), .int 1] = fr (-1) := rfl
theorem addL_cons (p q : Rat) (ps qs : List Rat) : addL (p :: ps) (q :: qs) = (p + q) :: addL ps qs := rfl
theorem scaleL_cons (p x : Rat) (ps : List Rat) : scaleL (p :: ps) x = (p * x) :: scaleL ps x := rfl
theorem dot_cons (p q : Rat) (ps qs : List Rat) : dot (p :: ps) (q :: qs) = p * q + dot ps qs := rfl
theorem dot_nil (qs : List Rat) : dot [] qs = 0 := rfl
theorem dot_nil2 (qs : List Rat) : dot qs [] = 0 := by rw [dot_comm]; rfl
theorem dot_add : ∀ {r s t : List Rat}, r.length = s.length → dot (addL r s) t = dot r t + dot s t
  | [], [], t, _ => by show dot [] t = dot [] t + dot [] t; rw [dot_nil]; grind
  | p :: r, q :: s, [], _ => by rw [dot_nil2, dot_nil2, dot_nil2]; grind
  | p :: r, q :: s, u :: t, h => by
    rw [addL_cons, dot_cons, dot_cons, dot_cons, dot_add (t := t) (by simpa using h)]
    grind
theorem dot_scale (a : Rat) : ∀ (r s : List Rat), dot (scaleL r a) s = dot r s * a
  | [], s => by show dot [] s = dot [] s * a; rw [dot_nil]; grind
  | p :: r, [] => by rw [dot_nil2, dot_nil2]; grind
  | p :: r, q :: s => by rw [scaleL_cons, dot_cons, dot_cons, dot_scale a r s]; grind
theorem addL_assoc : ∀ {r s t : List Rat}, r.length = s.length → t.length = s.length → addL (addL r s) t = addL r (addL s t)
  | [], [], [], _, _ => rfl
  | p :: r, q :: s, u :: t, h, h2 => by
    rw [addL_cons, addL_cons, addL_cons, addL_cons, addL_assoc (by simpa using h) (by simpa using h2), Rat.add_assoc]
theorem addL_back : ∀ {r s : List Rat}, r.length = s.length → addL (addL r s) (scaleL s (-1)) = r
  | [], [], _ => rfl
  | p :: r, q :: s, h => by
    rw [addL_cons, scaleL_cons, addL_cons, addL_back (by simpa using h)]
    congr 1
    grind
theorem scale_add (a : Rat) : ∀ {r s : List Rat}, r.length = s.length → scaleL (addL r s) a = addL (scaleL r a) (scaleL s a)
  | [], [], _ => rfl
  | p :: r, q :: s, h => by
    rw [addL_cons, scaleL_cons, scaleL_cons, scaleL_cons, addL_cons, scale_add a (by simpa using h)]
    congr 1
    grind
theorem wrowQ_of {qs : List Rat} {d : PL.D} (h : wrowQ [.tup (frs qs)] d) : ∃ vs : List Int, d = .tup (vs.map .int) ∧ WR qs vs := by
  obtain ⟨qs', vs, e, rfl, w⟩ := h
  rw [tup_frs_inj e]
  exact ⟨vs, rfl, w⟩
theorem lst2 (n : Nat) (a b : PL.D) (ha : Deep n a) (hb : Deep n b) : Deep (n + 1) (.lst [a, b]) := deep_lst (show 2 ≤ 6 by decide) fun x m => by
  simp only [List.mem_cons, List.not_mem_nil, or_false] at m
  rcases m with rfl | rfl
  · exact ha
  · exact hb
theorem lst3 (n : Nat) (a b c : PL.D) (ha : Deep n a) (hb : Deep n b) (hc : Deep n c) : Deep (n + 1) (.lst [a, b, c]) := deep_lst (show 3 ≤ 6 by decide) fun x m => by
  simp only [List.mem_cons, List.not_mem_nil, or_false] at m
  rcases m with rfl | rfl | rfl
  · exact ha
  · exact hb
  · exact hc
theorem dot_bdL {A B : Nat} : ∀ {ps qs : List Rat}, AllBd A ps → AllBd B qs → Bd ((A + B + 1) * ps.length + 1) (dot ps qs)
  | [], qs, _, _ => by rw [dot_nil]; exact Bd.zero.mono (by omega)
  | p :: ps, [], _, _ => by rw [dot_nil2]; exact Bd.zero.mono (by omega)
  | p :: ps, q :: qs, hp, hq => by
    rw [dot_cons]
    have ih := dot_bdL (ps := ps) (qs := qs) (fun x m => hp x (List.mem_cons_of_mem _ m)) (fun x m => hq x (List.mem_cons_of_mem _ m))
    have h1 := (hp p (List.mem_cons_self ..)).mul (hq q (List.mem_cons_self ..))
    refine (h1.add ih).mono ?_
    rw [List.length_cons, Nat.mul_succ]
    omega
theorem dot_bd (l m : List Rat) (h : l.length ≤ 6) (hl : AllBd 70 l) (hm : AllBd 70 m) : Bd 2000 (dot l m) := (dot_bdL hl hm).mono (by omega)
theorem fr_int (v : Int) : PL.D.tup [.int v, .int 1] = fr (v : Rat) := by
  unfold fr
  rw [Rat.num_intCast, Rat.den_intCast]
  rfl
theorem rat_pos {a : Rat} (h : 0 < a.num) : 0 < a := by
  have an := num_eq a
  have ad := den_ne a
  have ad0 : (0 : Rat) < (a.den : Rat) := by exact_mod_cast a.den_pos
  have n0 : (0 : Rat) < (a.num : Rat) := by exact_mod_cast h
  have e : a = (a.num : Rat) * (a.den : Rat)⁻¹ := by grind
  rw [e]
  exact Rat.mul_pos n0 (Rat.inv_pos.mpr ad0)
theorem scale_two (r : List Rat) (a : Rat) : scaleL r a = scaleL (scaleL r (-1)) (-a) := by
  unfold scaleL
  rw [List.map_map]
  refine List.map_congr_left fun p _ => ?_
  show p * a = p * (-1) * (-a)
  grind
local macro_rules | `(tactic| walk_at "pm") => `(tactic| simp only [sSeq, sSet, sIf, sRet, sRetN, sNext, sPar, sAsg, sDrop, sNever, dVar, dC, dOp, dUn, dTest, dTru, dAnd, dOr, dNot, dAndV, dOrV, dNotV, dIf, dChain, dCB, dCall, dCallK, aNil, aCons, dTup, dNew, fLst, fLc, tAll, sRel, sFor, PL.iItems, PL.iRange1, PL.iRange2, PL.iZip2,
  bAbs, bLen, bInt, bTuple, PL.ix_tup, PL.ix_lst, PL.add_int, PL.add_lst, PL.add_tup, PL.mul_int, PL.mul_lst, PL.oI_int, PL.oI0_int, PL.uI_int, PL.eq_int, PL.eq_bl, PL.eq_str, PL.ne_int, PL.ne_bl, PL.ne_str, oIs, oIsNot, D.isNon,
  startD, wipeD, bind_nm, bind_tup, bindA_nil, bindA_one, bindA_two, bindA_three, List.map_cons, List.map_nil, List.length_cons, List.length_nil, List.replicate, List.cons_append, List.nil_append, List.append_nil, List.getElem?_cons_zero, List.getElem?_cons_succ, List.set_cons_zero, List.set_cons_succ, setAllD, List.zip_cons_cons, List.zip_nil_left, List.zip_nil_right, List.zip, List.zipWith,
  gPick, List.filterMap_cons, List.filterMap_nil,
  atI_0, atI_1, Option.some.injEq, exists_eq_left', ix_fr0, ix_fr1, decide_eq_true_eq, decide_eq_false_iff_not, forall_eq, Bool.not_eq_true, Bool.not_eq_false, Bool.not_true, Bool.not_false, Bool.not_eq_true', Bool.not_eq_false',
  isi_non_list, isi_non_tuple, isi_non_bool, isi_non_int, isi_non_str, isi_non_seq, isi_bl_list, isi_bl_tuple, isi_bl_bool, isi_bl_int, isi_bl_str, isi_bl_seq, isi_int_list, isi_int_tuple, isi_int_bool, isi_int_int, isi_int_str, isi_int_seq, isi_str_list, isi_str_tuple, isi_str_bool, isi_str_int, isi_str_str, isi_str_seq, isi_tup_list, isi_tup_tuple, isi_tup_bool, isi_tup_int, isi_tup_str, isi_tup_seq, isi_lst_list, isi_lst_tuple, isi_lst_bool, isi_lst_int, isi_lst_str, isi_lst_seq, Bool.or_false, Bool.or_true, Bool.true_or, Bool.false_or, Bool.false_eq_true, Bool.true_eq_false,
  Nat.reduceAdd, Nat.reduceSub, true_and, and_true, forall_const, forall_eq', reduceCtorEq, false_implies, implies_true, fr_m1, prodQ_eq, plusQ_eq, timesQ_eq, scaledQ_eq, addedQ_eq, true_implies, not_true_eq_false, not_false_eq_true, Int.toNat_natCast, List.length_map, List.length_range])
def twoSo (ds : List PL.D) : Prop := ∃ (r s : List Rat) (x : Rat), ds = [.tup (frs r), .tup (frs s), fr x] ∧ r.length = s.length ∧ s.length ≤ 6 ∧ AllBd 30 r ∧ AllBd 30 s ∧ Bd 30 x
def s_law_two_so : SpD := sRel twoSo (fun _ r => r = .bl true)
theorem ok_law_two_so (ds : List PL.D) (x : XP) (Q : PL.D → Prop) (hl : ds.length = 3) (h : s_law_two_so ds x Q) : T_law_two_so s_added s_law_dot s_law_plus (s_same 4) s_law_times s_law_whole_so s_product s_scaled (startD 6 ds) x { nx := fun _ => Q .non, rt := Q } := by
  obtain ⟨⟨r, s, a, rfl, hlen, hle, hr, hs, ha⟩, q⟩ := h
  have q := q _ rfl
  have hrl : r.length ≤ 6 := by omega
  unfold T_law_two_so s_added s_law_dot s_law_plus s_same s_law_times s_law_whole_so s_product s_scaled
  have p1 : prodP [.tup (frs r), .tup (frs s)] := ⟨r, s, rfl, hlen, hrl, hr.mono (by decide), hs.mono (by decide)⟩
  have p2 : prodP [.tup (frs s), .tup (frs r)] := ⟨s, r, rfl, hlen.symm, hle, hs.mono (by decide), hr.mono (by decide)⟩
  refine seq_gen fun U hU => ?_
  walk_at "pm"
  have two : 2 ≤ sizeLine := by decide
  have sz : ∀ l : List Rat, l.length ≤ 6 → (frs l).length ≤ sizeLine := fun l h => by rw [frs_len]; unfold sizeLine; omega
  refine ⟨p1, p2, two, p1, p1, two, ⟨.lst [fr (dot r s), fr (dot r s)], by rw [dot_comm s r], deep_mono (lst2 2 _ _ (deep_fr _) (deep_fr _))⟩, ?_⟩
  subst hU
  refine seq_gen fun U hU => ?_
  walk_at "pm"
  refine ⟨⟨r, a, rfl, hrl, hr.mono (by decide), ha.mono (by decide)⟩, ⟨s, a, rfl, hle, hs.mono (by decide), ha.mono (by decide)⟩, two, sz r hrl, ?_⟩
  refine comp_scale (ps := r) (a := a) (j := 0) (fun p m Q' q' => ?_) ?_
  · walk_at "pm"
    exact ⟨⟨p, a, rfl, (hr p m).mono (by decide), ha.mono (by decide)⟩, q'⟩
  refine ⟨sz s hle, ?_⟩
  refine comp_scale (ps := s) (a := a) (j := 0) (fun p m Q' q' => ?_) ?_
  · walk_at "pm"
    exact ⟨⟨p, a, rfl, (hs p m).mono (by decide), ha.mono (by decide)⟩, q'⟩
  refine ⟨two, ⟨_, rfl, lst2 3 _ _ (deep_frs (by rw [scaleL_len]; exact hrl)) (deep_frs (by rw [scaleL_len]; exact hle))⟩, ?_⟩
  subst hU
  refine seq_gen fun U hU => ?_
  walk_at "pm"
  refine ⟨by rw [paired_frs, List.length_map, List.length_zip]; unfold sizeLine; omega, ?_⟩
  refine comp_add (ps := r) (qs := s) (fun p m p' m' Q' q' => ?_) ?_
  · walk_at "pm"
    exact ⟨⟨p, p', rfl, (hr p m).mono (by decide), (hs p' m').mono (by decide)⟩, q'⟩
  subst hU
  walk_at "pm"
  have al : (addL r s).length ≤ 6 := by rw [addL_len hlen]; exact hrl
  refine ⟨⟨r, s, rfl, hlen, hrl, hr.mono (by decide), hs.mono (by decide)⟩, ⟨s, r, rfl, hlen.symm, hle, hs.mono (by decide), hr.mono (by decide)⟩, two, two, ⟨_, by rw [addL_comm s r], lst2 3 _ _ (deep_frs al) (deep_frs al)⟩, ⟨r, rfl, hrl, hr.mono (by decide)⟩, ⟨s, rfl, hle, hs.mono (by decide)⟩, ⟨_, rfl, al, (addL_bd hr hs).mono (by decide)⟩, q⟩
-- ### _law_tied_so
def tiedSo (ds : List PL.D) : Prop := ∃ (r s t : List Rat) (x : Rat), ds = [.tup (frs r), .tup (frs s), .tup (frs t), fr x] ∧ r.length = s.length ∧ t.length = s.length ∧ s.length ≤ 6 ∧ AllBd 30 r ∧ AllBd 30 s ∧ AllBd 30 t ∧ Bd 30 x
def s_law_tied_so : SpD := sRel tiedSo (fun _ r => r = .bl true)
theorem ok_law_tied_so (ds : List PL.D) (x : XP) (Q : PL.D → Prop) (hl : ds.length = 4) (h : s_law_tied_so ds x Q) : T_law_tied_so s_added s_law_plus (s_same 4) s_law_times s_law_whole_so s_product s_scaled s_whole_row (startD 7 ds) x { nx := fun _ => Q .non, rt := Q } := by
  obtain ⟨⟨r, s, t, a, rfl, hlen, hlt, hle, hr, hs, ht, ha⟩, q⟩ := h
  have q := q _ rfl
  have hrl : r.length ≤ 6 := by omega
  have htl : t.length ≤ 6 := by omega
  unfold T_law_tied_so s_added s_law_plus s_same s_law_times s_law_whole_so s_product s_scaled s_whole_row
  refine seq_gen fun U hU => ?_
  walk_at "pm"
  refine ⟨⟨r, s, rfl, hlen, hrl, hr.mono (by decide), hs.mono (by decide)⟩, ?_⟩
  have bl : (addL r s).length = r.length := addL_len hlen
  have bb := addL_bd hr hs
  subst hU
  refine seq_gen fun U hU => ?_
  walk_at "pm"
  have two : 2 ≤ sizeLine := by decide
  have three : 3 ≤ sizeLine := by decide
  have d1 : ∀ d : PL.D, Deep 2 d → Deep 4 d := fun d h => deep_mono (deep_mono h)
  refine ⟨⟨_, t, rfl, by omega, by omega, bb.mono (by decide), ht.mono (by decide)⟩, ⟨r, t, rfl, by omega, hrl, hr.mono (by decide), ht.mono (by decide)⟩, ⟨s, t, rfl, by omega, hle, hs.mono (by decide), ht.mono (by decide)⟩, ?_⟩
  have hd1 : ∀ l m : List Rat, l.length ≤ 6 → AllBd 70 l → AllBd 70 m → Bd 2000 (dot l m) := dot_bd
  refine ⟨⟨_, _, rfl, (hd1 _ _ hrl (hr.mono (by decide)) (ht.mono (by decide))).mono (by decide), (hd1 _ _ hle (hs.mono (by decide)) (ht.mono (by decide))).mono (by decide)⟩, ⟨_, by rw [dot_add hlen], d1 _ (deep_fr _)⟩, ?_⟩
  subst hU
  refine seq_gen fun U hU => ?_
  walk_at "pm"
  have rs := hd1 _ _ hrl (hr.mono (by decide)) (hs.mono (by decide))
  have sr := hd1 _ _ hle (hs.mono (by decide)) (hr.mono (by decide))
  have srl : (scaleL r a).length = r.length := scaleL_len ..
  have ssl : (scaleL s a).length = s.length := scaleL_len ..
  have brs := scaleL_bd hr ha
  have bss := scaleL_bd hs ha
  have SP : ∀ (l : List Rat) (b : Rat), l.length ≤ 6 → AllBd 200 l → Bd 200 b → scaledP [.tup (frs l), fr b] := fun l b h1 h2 h3 => ⟨l, b, rfl, h1, h2.mono (by decide), h3.mono (by decide)⟩
  have PP : ∀ (l m : List Rat), l.length ≤ 6 → m.length = l.length → AllBd 200 l → AllBd 200 m → prodP [.tup (frs l), .tup (frs m)] := fun l m h1 h2 h3 h4 => ⟨l, m, rfl, h2.symm, h1, h3, h4⟩
  have AP : ∀ (l m : List Rat), l.length ≤ 6 → m.length = l.length → AllBd 200 l → AllBd 200 m → addedP [.tup (frs l), .tup (frs m)] := fun l m h1 h2 h3 h4 => ⟨l, m, rfl, h2.symm, h1, h3.mono (by decide), h4.mono (by decide)⟩
  have b30 : ∀ {l : List Rat}, AllBd 30 l → AllBd 200 l := fun h => h.mono (by decide)
  have b60 : ∀ {l : List Rat}, AllBd (30 + 30) l → AllBd 200 l := fun h => h.mono (by decide)
  have b61 : ∀ {l : List Rat}, AllBd (30 + 30 + 1) l → AllBd 200 l := fun h => h.mono (by decide)
  have ha' : Bd 200 a := ha.mono (by decide)
  refine ⟨SP _ _ hrl (b30 hr) ha', PP _ _ (by omega) (by omega) (b60 brs) (b30 hs), SP _ _ hle (b30 hs) ha', PP _ _ hrl (by omega) (b30 hr) (b60 bss), two, PP _ _ hrl (by omega) (b30 hr) (b30 hs), ⟨_, _, rfl, rs.mono (by decide), ha.mono (by decide)⟩, PP _ _ hle (by omega) (b30 hs) (b30 hr), ⟨_, _, rfl, ha.mono (by decide), sr.mono (by decide)⟩, two, ⟨_, ?_, deep_mono (lst2 2 _ _ (deep_fr (dot r s * a)) (deep_fr (dot r s * a)))⟩, ?_⟩
  · have e1 := dot_scale a r s
    have e2 : dot r (scaleL s a) = dot r s * a := by rw [dot_comm r, dot_scale, dot_comm s r]
    have e3 : a * dot s r = dot r s * a := by rw [dot_comm s r, Rat.mul_comm]
    rw [e1, e2, e3]
  subst hU
  refine seq_gen fun U hU => ?_
  walk_at "pm"
  have a1 : (addL s t).length = s.length := addL_len hlt.symm
  have bst := addL_bd hs ht
  have m1 : Bd 1 (-1) := Bd.one.neg
  have sm1 : (scaleL s (-1)).length = s.length := scaleL_len ..
  have bm1 : AllBd 200 (scaleL s (-1)) := (scaleL_bd hs m1).mono (by decide)
  refine ⟨AP _ _ (by omega) (by omega) (b61 bb) (b30 ht), two, SP _ _ hle (b30 hs) (m1.mono (by decide)), AP _ _ (by omega) (by omega) (b61 bb) bm1, SP _ _ (by omega) (b61 bb) ha', three, AP _ _ hle (by omega) (b30 hs) (b30 ht), AP _ _ hrl (by omega) (b30 hr) (b61 bst), SP _ _ hrl (b30 hr) ha', SP _ _ hle (b30 hs) ha', AP _ _ (by omega) (by omega) (b60 brs) (b60 bss), three, ⟨_, ?_, lst3 3 _ _ _ (deep_frs (qs := addL r (addL s t)) ?_) (deep_frs (qs := r) hrl) (deep_frs (qs := addL (scaleL r a) (scaleL s a)) ?_)⟩, ?_⟩
  · rw [addL_assoc hlen hlt, addL_back hlen, scale_add a hlen]
  · rw [addL_len (by omega)]; exact hrl
  · rw [addL_len (by omega)]; omega
  subst hU
  refine seq_gen fun U hU => ?_
  walk_at "pm"
  have sbl : (scaleL (addL r s) a).length ≤ 6 := by rw [scaleL_len]; omega
  refine ⟨SP _ _ (by omega) (b61 bb) ha', ⟨_, rfl, sbl, (scaleL_bd bb ha).mono (by decide)⟩, ?_⟩
  subst hU
  refine seq_gen fun U hU => ?_
  walk_at "pm"
  refine ⟨⟨r, rfl, hrl, hr.mono (by decide)⟩, fun d hd => ?_⟩
  obtain ⟨vs, rfl, w⟩ := wrowQ_of hd
  have vl := w.len
  have dv : Deep 4 (.tup (vs.map .int)) := d1 _ (deep_ints (by omega))
  have an := num_eq a
  have ad := den_ne a
  have ad0 : (0 : Rat) < (a.den : Rat) := by exact_mod_cast a.den_pos
  subst hU
  refine seq_gen fun U hU => ?_
  walk_at "pm"
  have vsz : vs.length ≤ sizeLine := by unfold sizeLine; omega
  have rowS : rowP [.tup (frs (scaleL r a))] := ⟨_, rfl, by omega, brs.mono (by decide)⟩
  have next : U [Sl.v (D.tup (Fr.frs r)), Sl.v (D.tup (Fr.frs s)), Sl.v (D.tup (Fr.frs t)), Sl.v (fr a), Sl.v (D.tup (Fr.frs (addL r s))), Sl.v (D.tup (List.map D.int vs)), Sl.un] x { nx := fun x => Q D.non, rt := Q } := by
    subst hU
    refine seq_gen fun U hU => ?_
    walk_at "pm"
    have next : U [Sl.v (D.tup (Fr.frs r)), Sl.v (D.tup (Fr.frs s)), Sl.v (D.tup (Fr.frs t)), Sl.v (fr a), Sl.v (D.tup (Fr.frs (addL r s))), Sl.v (D.tup (List.map D.int vs)), Sl.un] x { nx := fun x => Q D.non, rt := Q } := by
      subst hU
      walk_at "pm"
      refine ⟨vsz, ?_⟩
      refine comp_list (f := D.int) (xs := vs) (g := fun v : Int => fr (v : Rat)) (fun v m => ⟨_, bind_nm, fun Q' q' => ?_⟩) ?_
      · walk_at "pm"
        refine ⟨two, ?_⟩
        rw [fr_int]
        exact q'
      rw [List.nil_append]
      have ef : (vs.map fun v : Int => fr (v : Rat)) = frs (wholes vs) := by unfold Fr.frs wholes; rw [List.map_map]; rfl
      rw [ef]
      have wl : (wholes vs).length = vs.length := by unfold wholes; rw [List.length_map]
      refine ⟨⟨_, rfl, by omega, (w.bd hr).mono (by decide)⟩, fun d hd => ?_⟩
      obtain ⟨ws, rfl, w2⟩ := wrowQ_of hd
      obtain ⟨f, fp, fe, fr'⟩ := w
      have := wr_unique f fp fe ⟨f, fp, fe, fr'⟩ w2
      subst this
      exact ⟨⟨_, rfl, dv⟩, q⟩
    refine ⟨fun hneg => ⟨SP _ _ hrl (b30 hr) ha', rowS, fun d hd => ⟨vsz, ?_⟩⟩, fun _ => next⟩
    obtain ⟨ws, rfl, w2⟩ := wrowQ_of hd
    refine comp_list (f := D.int) (xs := vs) (g := fun v : Int => .int (0 - v)) (fun v m => ⟨_, bind_nm, fun Q' q' => ?_⟩) ?_
    · walk_at "pm"
      exact q'
    rw [List.nil_append]
    have hp : 0 < -a := rat_pos (by rw [Rat.neg_num]; omega)
    have := wr_unique (-a) hp (scale_two r a) (wr_neg w) w2
    have e2 : (vs.map fun v : Int => PL.D.int (0 - v)) = ws.map D.int := by
      rw [← this, List.map_map]
      refine List.map_congr_left fun v _ => ?_
      show PL.D.int (0 - v) = .int (-v)
      rw [Int.zero_sub]
    rw [e2]
    have wsl := w2.len
    exact ⟨⟨_, rfl, d1 _ (deep_ints (by omega))⟩, next⟩
  refine ⟨fun hpos => ⟨SP _ _ hrl (b30 hr) ha', rowS, fun d hd => ?_⟩, fun _ => next⟩
  obtain ⟨ws, rfl, w2⟩ := wrowQ_of hd
  have := wr_unique a (rat_pos hpos) rfl w w2
  subst this
  exact ⟨⟨_, rfl, dv⟩, next⟩
-- ### law
theorem fr_neg (p : Rat) : PL.D.tup [.int (0 - p.num), .int (p.den : Int)] = fr (-p) := by
  unfold fr
  rw [Rat.neg_num, Rat.neg_den, Int.zero_sub]
theorem law_read (n : Nat) (hn : n = 9) (x : XP) : T_law s_draw s_law_fraction s_law_pick s_law_row s_law_small s_law_tied_so s_law_two_so (startL n) x lawEnd := by
  subst hn
  unfold T_law s_draw s_law_fraction s_law_row s_law_small s_law_tied_so s_law_two_so
  refine seq_gen fun U hU => ?_
  have fin : ∀ G, U G x lawEnd := by
    intro G
    subst hU
    walk_at "pm"
    rfl
  clear hU
  unfold startL
  walk_at "pm"
  refine ⟨by decide, ?_⟩
  show loopD _ _ _ (ranged 0 6) _ _
  rw [ranged_0]
  refine loop_inv (xs := List.range 6) (I := fun i G => ∃ s2 s3 s4 s5 s6 s7 s8, G = [.un, .v .bag, s2, s3, s4, s5, s6, s7, s8]) ⟨_, _, _, _, _, _, _, rfl⟩ ?_ (fun G _ => fin G)
  rintro i k hk G ⟨s2, s3, s4, s5, s6, s7, s8, rfl⟩
  refine ⟨_, bind_nm, fun E' h1 h2 h3 h4 => ?_⟩
  have nx : ∀ s2 s3 s4 s5 s6 s7 s8, E'.nx [.un, .v .bag, s2, s3, s4, s5, s6, s7, s8] := fun s2 s3 s4 s5 s6 s7 s8 => h1 _ ⟨_, _, _, _, _, _, _, rfl⟩
  clear h1 h2 h3 h4
  refine seq_gen fun U hU => ?_
  unfold s_law_pick at hU ⊢
  walk_at "pm"
  refine ⟨by decide, ⟨_, .inl rfl, by decide, by decide⟩, fun d hd => ?_⟩
  have hd := pick_lst hd
  have : ∃ n : Nat, d = .int n ∧ n ≤ 6 := by
    simp only [List.mem_cons, List.not_mem_nil, or_false] at hd
    rcases hd with rfl | rfl | rfl | rfl | rfl | rfl | rfl | rfl
    · exact ⟨0, rfl, by decide⟩
    · exact ⟨1, rfl, by decide⟩
    · exact ⟨1, rfl, by decide⟩
    · exact ⟨2, rfl, by decide⟩
    · exact ⟨3, rfl, by decide⟩
    · exact ⟨3, rfl, by decide⟩
    · exact ⟨4, rfl, by decide⟩
    · exact ⟨6, rfl, by decide⟩
  obtain ⟨n, rfl, hn⟩ := this
  have rowq : ∀ d : PL.D, (∃ (n' : Nat) (qs : List Rat), [PL.D.bag, .int n] = [.bag, .int n'] ∧ d = .tup (frs qs) ∧ qs.length = n' ∧ AllBd 30 qs) → ∃ qs : List Rat, d = .tup (frs qs) ∧ qs.length = n ∧ AllBd 30 qs := by
    rintro d ⟨n', qs, e, rfl, l, b⟩
    simp only [List.cons.injEq, D.int.injEq, and_true, true_and] at e
    exact ⟨qs, rfl, by omega, b⟩
  subst hU
  refine seq_gen fun U hU => ?_
  walk_at "pm"
  refine ⟨⟨n, rfl, hn⟩, fun d hd => ⟨⟨n, rfl, hn⟩, fun d2 hd2 => ⟨⟨n, rfl, hn⟩, fun d3 hd3 => ?_⟩⟩⟩
  obtain ⟨r, rfl, rl, rb⟩ := rowq _ hd
  obtain ⟨s, rfl, sl, sb⟩ := rowq _ hd2
  obtain ⟨t, rfl, tl, tb⟩ := rowq _ hd3
  subst hU
  refine seq_gen fun U hU => ?_
  walk_at "pm"
  rintro d ⟨a, rfl, ba⟩ d1 ⟨b, rfl, bb⟩
  have two : 2 ≤ sizeLine := by decide
  refine ⟨two, two, two, by decide, ⟨_, .inl rfl, Nat.succ_pos _, show 5 < 2 ^ 64 by decide⟩, fun d hd => ?_⟩
  have hd := pick_lst hd
  have : ∃ q : Rat, d = fr q ∧ Bd 30 q := by
    simp only [List.mem_cons, List.not_mem_nil, or_false] at hd
    rcases hd with rfl | rfl | rfl | rfl | rfl
    · exact ⟨a, rfl, ba⟩
    · exact ⟨b, rfl, bb⟩
    · exact ⟨0, rfl, Bd.zero.mono (by decide)⟩
    · exact ⟨-1, rfl, Bd.one.neg.mono (by decide)⟩
    · exact ⟨1, rfl, Bd.one.mono (by decide)⟩
  obtain ⟨q, rfl, bq⟩ := this
  subst hU
  refine seq_gen fun U hU => ?_
  have last : ∀ (s : List Rat) s2 s3 s8, s.length = n → AllBd 30 s → U [Sl.un, Sl.v D.bag, s2, s3, Sl.v (D.tup (Fr.frs r)), Sl.v (D.tup (Fr.frs s)), Sl.v (D.tup (Fr.frs t)), Sl.v (fr q), s8] x E' := by
    intro s s2 s3 s8 sl sb
    subst hU
    walk_at "pm"
    exact ⟨⟨r, s, q, rfl, by omega, by omega, rb, sb, bq⟩, ⟨r, s, t, q, rfl, by omega, by omega, by omega, rb, sb, tb, bq⟩, nx _ _ _ _ _ _ _⟩
  clear hU
  walk_at "pm"
  refine ⟨⟨_, rfl, by decide, by decide⟩, ?_⟩
  rintro d ⟨top, j, e, rfl, j0, j1⟩
  simp only [List.cons.injEq, D.int.injEq, and_true, true_and] at e
  subst e
  walk_at "pm"
  refine ⟨fun _ => ⟨by rw [frs_len]; unfold sizeLine; omega, ?_⟩, fun _ => last s _ _ _ sl sb⟩
  refine comp_list (f := fr) (xs := r) (g := fun p => fr (-p)) (fun p m => ⟨_, bind_nm, fun Q' q' => ?_⟩) ?_
  · walk_at "pm"
    refine ⟨two, ?_⟩
    rw [fr_neg]
    exact q'
  rw [List.nil_append]
  have ef : (r.map fun p => fr (-p)) = frs (r.map fun p => -p) := by unfold Fr.frs; rw [List.map_map]; rfl
  rw [ef]
  refine ⟨two, ⟨_, .inl rfl, Nat.succ_pos _, show 2 < 2 ^ 64 by decide⟩, fun d hd => ?_⟩
  have hd := pick_lst hd
  simp only [List.mem_cons, List.not_mem_nil, or_false] at hd
  rcases hd with rfl | rfl
  · exact last r _ _ _ rl rb
  · refine last _ _ _ _ (by rw [List.length_map]; exact rl) fun p m => ?_
    obtain ⟨p', m', rfl⟩ := List.mem_map.mp m
    exact (rb p' m').neg
set_option maxHeartbeats 0
set_option maxRecDepth 100000

/-! ## the head's facts -/
def hd_common_divisor : He.DefD := ⟨("common_divisor", none), "common_divisor", "common_divisor", defArgs st_common_divisor, defBody st_common_divisor, defScope st_common_divisor, [], []⟩
def hd_divisor_of : He.DefD := ⟨("divisor_of", none), "divisor_of", "divisor_of", defArgs st_divisor_of, defBody st_divisor_of, defScope st_divisor_of, [], []⟩
def hd_fraction : He.DefD := ⟨("fraction", none), "fraction", "fraction", defArgs st_fraction, defBody st_fraction, defScope st_fraction, [.int 1], []⟩
def hd_plus : He.DefD := ⟨("plus", none), "plus", "plus", defArgs st_plus, defBody st_plus, defScope st_plus, [], []⟩
def hd_times : He.DefD := ⟨("times", none), "times", "times", defArgs st_times, defBody st_times, defScope st_times, [], []⟩
def hd_product : He.DefD := ⟨("product", none), "product", "product", defArgs st_product, defBody st_product, defScope st_product, [], []⟩
def hd_scaled : He.DefD := ⟨("scaled", none), "scaled", "scaled", defArgs st_scaled, defBody st_scaled, defScope st_scaled, [], []⟩
def hd_added : He.DefD := ⟨("added", none), "added", "added", defArgs st_added, defBody st_added, defScope st_added, [], []⟩
def hd_whole_factor : He.DefD := ⟨("whole_factor", none), "whole_factor", "whole_factor", defArgs st_whole_factor, defBody st_whole_factor, defScope st_whole_factor, [], []⟩
def hd_whole_row : He.DefD := ⟨("whole_row", none), "whole_row", "whole_row", defArgs st_whole_row, defBody st_whole_row, defScope st_whole_row, [], []⟩
def hd_law_bag : He.DefD := ⟨("_law_bag", none), "_law_bag", "_law_bag", defArgs st_law_bag, defBody st_law_bag, defScope st_law_bag, [], []⟩
def hd_law_draw : He.DefD := ⟨("_law_draw", none), "_law_draw", "_law_draw", defArgs st_law_draw, defBody st_law_draw, defScope st_law_draw, [], []⟩
def hd_law_pick : He.DefD := ⟨("_law_pick", none), "_law_pick", "_law_pick", defArgs st_law_pick, defBody st_law_pick, defScope st_law_pick, [], []⟩
def hd_law_same : He.DefD := ⟨("_law_same", none), "_law_same", "_law_same", defArgs st_law_same, defBody st_law_same, defScope st_law_same, [], []⟩
def hd_law_is_whole : He.DefD := ⟨("_law_is_whole", none), "_law_is_whole", "_law_is_whole", defArgs st_law_is_whole, defBody st_law_is_whole, defScope st_law_is_whole, [], []⟩
def hd_law_common : He.DefD := ⟨("_law_common", none), "_law_common", "_law_common", defArgs st_law_common, defBody st_law_common, defScope st_law_common, [], []⟩
def hd_law_low : He.DefD := ⟨("_law_low", none), "_law_low", "_law_low", defArgs st_law_low, defBody st_law_low, defScope st_law_low, [], []⟩
def hd_law_plus : He.DefD := ⟨("_law_plus", none), "_law_plus", "_law_plus", defArgs st_law_plus, defBody st_law_plus, defScope st_law_plus, [], []⟩
def hd_law_times : He.DefD := ⟨("_law_times", none), "_law_times", "_law_times", defArgs st_law_times, defBody st_law_times, defScope st_law_times, [], []⟩
def hd_law_dot : He.DefD := ⟨("_law_dot", none), "_law_dot", "_law_dot", defArgs st_law_dot, defBody st_law_dot, defScope st_law_dot, [], []⟩
def hd_law_small : He.DefD := ⟨("_law_small", none), "_law_small", "_law_small", defArgs st_law_small, defBody st_law_small, defScope st_law_small, [], []⟩
def hd_law_fraction : He.DefD := ⟨("_law_fraction", none), "_law_fraction", "_law_fraction", defArgs st_law_fraction, defBody st_law_fraction, defScope st_law_fraction, [], []⟩
def hd_law_row : He.DefD := ⟨("_law_row", none), "_law_row", "_law_row", defArgs st_law_row, defBody st_law_row, defScope st_law_row, [], []⟩
def hd_law_whole_so : He.DefD := ⟨("_law_whole_so", none), "_law_whole_so", "_law_whole_so", defArgs st_law_whole_so, defBody st_law_whole_so, defScope st_law_whole_so, [], []⟩
def hd_law_two_so : He.DefD := ⟨("_law_two_so", none), "_law_two_so", "_law_two_so", defArgs st_law_two_so, defBody st_law_two_so, defScope st_law_two_so, [], []⟩
def hd_law_tied_so : He.DefD := ⟨("_law_tied_so", none), "_law_tied_so", "_law_tied_so", defArgs st_law_tied_so, defBody st_law_tied_so, defScope st_law_tied_so, [], []⟩
def hd_law : He.DefD := ⟨("law", none), "law", "law", defArgs st_law, defBody st_law, defScope st_law, [], []⟩
def fn : List He.DefD := [hd_common_divisor, hd_divisor_of, hd_fraction, hd_plus, hd_times, hd_product, hd_scaled, hd_added, hd_whole_factor, hd_whole_row, hd_law_bag, hd_law_draw, hd_law_pick, hd_law_same, hd_law_is_whole, hd_law_common, hd_law_low, hd_law_plus, hd_law_times, hd_law_dot, hd_law_small, hd_law_fraction, hd_law_row, hd_law_whole_so, hd_law_two_so, hd_law_tied_so, hd_law]
def fa : List He.Fa := [.glo "common_divisor", .glo "divisor_of", .glo "fraction", .glo "plus", .glo "times", .glo "product", .glo "scaled", .glo "added", .glo "whole_factor", .glo "whole_row", .glo "_law_bag", .glo "_law_draw", .glo "_law_pick", .glo "_law_same", .glo "_law_is_whole", .glo "_law_common", .glo "_law_low", .glo "_law_plus", .glo "_law_times", .glo "_law_dot", .glo "_law_small", .glo "_law_fraction", .glo "_law_row", .glo "_law_whole_so", .glo "_law_two_so", .glo "_law_tied_so", .glo "law", .free "abs", .free "all", .free "bool", .free "int", .free "isinstance", .free "len", .free "list", .free "range", .free "str", .free "tuple", .free "zip", .glo "ONE"]
def ex (K : PySem.W.Frag) : Bool := (He.tupB K "ONE" ([(1 : Int), (1 : Int)].map He.Dv.int))
abbrev RR : PySem.W.OpenRow := PySem.W.OpenLaw.row PySem.Challenge.rw_shutopen_k03_rows_and_products
abbrev hk : PySem.W.Hook := hookP 4 fa fn ex
def ob (s : PySem.W.SharedT) : He.AlD := obsPG 4 fa fn ex (HandSHeadRun.getT s)
theorem ob_eq (s : PySem.W.SharedT) : ob s = hk.obs s.abs := obsPG_eq (HandSHeadRun.getT_eq s)
def loose0 : List PySem.Str := ["common_divisor", "divisor_of", "fraction", "plus", "times", "product", "scaled", "added", "whole_factor", "whole_row", "_law_bag", "_law_draw", "_law_pick", "_law_same", "_law_is_whole", "_law_common", "_law_low", "_law_plus", "_law_times", "_law_dot", "_law_small", "_law_fraction", "_law_row", "_law_whole_so", "_law_two_so", "_law_tied_so", "Impossible", "ByZero", "__name__", "ONE"]
def loose : List PySem.Str := loose0
theorem run (w : World) : HandSHeadRun.RunEq RR (PySem.W.view RR.prog [33]) hk ob 4000 loose w := by
  intro os
  kernel_rfl
theorem facts {P : Program} {w : World} {K : PySem.W.Frag} {h : Heap} {mg : Str → Option Value} {f : Addr} (X : K.In h) (G : h.Ns mainGlobals mg) (hfa : mg ("law" : Str) = some (.ref f)) (c : SaysP fa fn ex K) :
    ∃ fd : FuncData, (∀ (s : Shared) (v : Value), BindsTo s fd ⟨[v], []⟩ [("_law_script", v)]) ∧ ∀ base : Heap, K.In base → base.Ns mainGlobals mg → FnOk P w K mg base (L2.CX P w) 7 f fd ["_law_script"] (spLaw K) := by
  have cd := c.d
  obtain ⟨fd_common_divisor, F_common_divisor⟩ := cd.def_ 0 (d := hd_common_divisor) rfl
  have g_common_divisor := He.glo_ok X G (cd.fact 0 (f := .glo "common_divisor") rfl)
  obtain ⟨fd_divisor_of, F_divisor_of⟩ := cd.def_ 1 (d := hd_divisor_of) rfl
  have g_divisor_of := He.glo_ok X G (cd.fact 1 (f := .glo "divisor_of") rfl)
  obtain ⟨fd_fraction, F_fraction⟩ := cd.def_ 2 (d := hd_fraction) rfl
  have g_fraction := He.glo_ok X G (cd.fact 2 (f := .glo "fraction") rfl)
  obtain ⟨fd_plus, F_plus⟩ := cd.def_ 3 (d := hd_plus) rfl
  have g_plus := He.glo_ok X G (cd.fact 3 (f := .glo "plus") rfl)
  obtain ⟨fd_times, F_times⟩ := cd.def_ 4 (d := hd_times) rfl
  have g_times := He.glo_ok X G (cd.fact 4 (f := .glo "times") rfl)
  obtain ⟨fd_product, F_product⟩ := cd.def_ 5 (d := hd_product) rfl
  have g_product := He.glo_ok X G (cd.fact 5 (f := .glo "product") rfl)
  obtain ⟨fd_scaled, F_scaled⟩ := cd.def_ 6 (d := hd_scaled) rfl
  have g_scaled := He.glo_ok X G (cd.fact 6 (f := .glo "scaled") rfl)
  obtain ⟨fd_added, F_added⟩ := cd.def_ 7 (d := hd_added) rfl
  have g_added := He.glo_ok X G (cd.fact 7 (f := .glo "added") rfl)
  obtain ⟨fd_whole_factor, F_whole_factor⟩ := cd.def_ 8 (d := hd_whole_factor) rfl
  have g_whole_factor := He.glo_ok X G (cd.fact 8 (f := .glo "whole_factor") rfl)
  obtain ⟨fd_whole_row, F_whole_row⟩ := cd.def_ 9 (d := hd_whole_row) rfl
  have g_whole_row := He.glo_ok X G (cd.fact 9 (f := .glo "whole_row") rfl)
  obtain ⟨fd_law_bag, F_law_bag⟩ := cd.def_ 10 (d := hd_law_bag) rfl
  have g_law_bag := He.glo_ok X G (cd.fact 10 (f := .glo "_law_bag") rfl)
  obtain ⟨fd_law_draw, F_law_draw⟩ := cd.def_ 11 (d := hd_law_draw) rfl
  have g_law_draw := He.glo_ok X G (cd.fact 11 (f := .glo "_law_draw") rfl)
  obtain ⟨fd_law_pick, F_law_pick⟩ := cd.def_ 12 (d := hd_law_pick) rfl
  have g_law_pick := He.glo_ok X G (cd.fact 12 (f := .glo "_law_pick") rfl)
  obtain ⟨fd_law_same, F_law_same⟩ := cd.def_ 13 (d := hd_law_same) rfl
  have g_law_same := He.glo_ok X G (cd.fact 13 (f := .glo "_law_same") rfl)
  obtain ⟨fd_law_is_whole, F_law_is_whole⟩ := cd.def_ 14 (d := hd_law_is_whole) rfl
  have g_law_is_whole := He.glo_ok X G (cd.fact 14 (f := .glo "_law_is_whole") rfl)
  obtain ⟨fd_law_common, F_law_common⟩ := cd.def_ 15 (d := hd_law_common) rfl
  have g_law_common := He.glo_ok X G (cd.fact 15 (f := .glo "_law_common") rfl)
  obtain ⟨fd_law_low, F_law_low⟩ := cd.def_ 16 (d := hd_law_low) rfl
  have g_law_low := He.glo_ok X G (cd.fact 16 (f := .glo "_law_low") rfl)
  obtain ⟨fd_law_plus, F_law_plus⟩ := cd.def_ 17 (d := hd_law_plus) rfl
  have g_law_plus := He.glo_ok X G (cd.fact 17 (f := .glo "_law_plus") rfl)
  obtain ⟨fd_law_times, F_law_times⟩ := cd.def_ 18 (d := hd_law_times) rfl
  have g_law_times := He.glo_ok X G (cd.fact 18 (f := .glo "_law_times") rfl)
  obtain ⟨fd_law_dot, F_law_dot⟩ := cd.def_ 19 (d := hd_law_dot) rfl
  have g_law_dot := He.glo_ok X G (cd.fact 19 (f := .glo "_law_dot") rfl)
  obtain ⟨fd_law_small, F_law_small⟩ := cd.def_ 20 (d := hd_law_small) rfl
  have g_law_small := He.glo_ok X G (cd.fact 20 (f := .glo "_law_small") rfl)
  obtain ⟨fd_law_fraction, F_law_fraction⟩ := cd.def_ 21 (d := hd_law_fraction) rfl
  have g_law_fraction := He.glo_ok X G (cd.fact 21 (f := .glo "_law_fraction") rfl)
  obtain ⟨fd_law_row, F_law_row⟩ := cd.def_ 22 (d := hd_law_row) rfl
  have g_law_row := He.glo_ok X G (cd.fact 22 (f := .glo "_law_row") rfl)
  obtain ⟨fd_law_whole_so, F_law_whole_so⟩ := cd.def_ 23 (d := hd_law_whole_so) rfl
  have g_law_whole_so := He.glo_ok X G (cd.fact 23 (f := .glo "_law_whole_so") rfl)
  obtain ⟨fd_law_two_so, F_law_two_so⟩ := cd.def_ 24 (d := hd_law_two_so) rfl
  have g_law_two_so := He.glo_ok X G (cd.fact 24 (f := .glo "_law_two_so") rfl)
  obtain ⟨fd_law_tied_so, F_law_tied_so⟩ := cd.def_ 25 (d := hd_law_tied_so) rfl
  have g_law_tied_so := He.glo_ok X G (cd.fact 25 (f := .glo "_law_tied_so") rfl)
  obtain ⟨fd_law, F_law⟩ := cd.def_ 26 (d := hd_law) rfl
  have g_law := He.glo_ok X G (cd.fact 26 (f := .glo "law") rfl)
  have b_abs := He.free_ok X G (cd.fact 27 (f := .free "abs") rfl)
  have b_all := He.free_ok X G (cd.fact 28 (f := .free "all") rfl)
  have b_bool := He.free_ok X G (cd.fact 29 (f := .free "bool") rfl)
  have b_int := He.free_ok X G (cd.fact 30 (f := .free "int") rfl)
  have b_isinstance := He.free_ok X G (cd.fact 31 (f := .free "isinstance") rfl)
  have b_len := He.free_ok X G (cd.fact 32 (f := .free "len") rfl)
  have b_list := He.free_ok X G (cd.fact 33 (f := .free "list") rfl)
  have b_range := He.free_ok X G (cd.fact 34 (f := .free "range") rfl)
  have b_str := He.free_ok X G (cd.fact 35 (f := .free "str") rfl)
  have b_tuple := He.free_ok X G (cd.fact 36 (f := .free "tuple") rfl)
  have b_zip := He.free_ok X G (cd.fact 37 (f := .free "zip") rfl)
  have B : Bu mg := ⟨b_abs, b_all, b_bool, b_int, b_isinstance, b_len, b_list, b_range, b_str, b_tuple, b_zip⟩
  have e := hfa.symm.trans g_law
  cases e
  have k_ONE : PL.Con K mg "ONE" (.tup ([(1 : Int), (1 : Int)].map D.int)) := con_tup X G (cd.fact 38 (f := .glo "ONE") rfl) c.more
  have bl := FunD.bindsA (ps := ["_law_script"]) F_law fun _ _ _ _ _ _ us hl => match us, hl with | [_], _ => rfl
  refine ⟨fd_law, fun s v => bl s [v] rfl, fun base _ _ => ?_⟩
  have b_common_divisor : Binds K fd_common_divisor ["one", "other"] [] := F_common_divisor.bindsN fun _ _ _ _ _ _ us hl => match us, hl with | [_, _], _ => rfl
  have o_common_divisor : FnOk P w K mg base (L2.CX P w) 1 _ fd_common_divisor ["one", "other"] (liftSp K 2 s_common_divisor) := def_ok F_common_divisor sc_common_divisor rfl (fun cdv A outer st H E hr => body_common_divisor (B := B) (f := _) (cdv := cdv) (A := A) (outer := outer) (st := st) (H := H) (E := E) (hr := hr)) ok_common_divisor
  have c_common_divisor : Cal P w K mg base "common_divisor" 1 2 s_common_divisor := ⟨⟨_, fd_common_divisor, ["one", "other"], g_common_divisor, F_common_divisor.kp, o_common_divisor, b_common_divisor⟩⟩
  have b_law_bag : Binds K fd_law_bag ["_law_script"] [] := F_law_bag.bindsN fun _ _ _ _ _ _ us hl => match us, hl with | [_], _ => rfl
  have c_law_bag : CalBag P w K mg base "_law_bag" 1 := ⟨⟨_, fd_law_bag, ["_law_script"], g_law_bag, F_law_bag.kp, bag_fn F_law_bag sc_law_bag rfl rfl (fun cdv A outer st H E hr => body_law_bag B _ cdv A outer st H E hr), b_law_bag⟩⟩
  have b_law_draw : Binds K fd_law_draw ["_law_bag_here", "_law_top"] [] := F_law_draw.bindsN fun _ _ _ _ _ _ us hl => match us, hl with | [_, _], _ => rfl
  have o_law_draw : FnOk P w K mg base (L2.CX P w) 1 _ fd_law_draw ["_law_bag_here", "_law_top"] (liftSp K 2 s_draw) := draw_fn F_law_draw sc_law_draw rfl rfl (fun cdv A outer st H E hr => body_law_draw B _ cdv A outer st H E hr)
  have c_law_draw : Cal P w K mg base "_law_draw" 1 2 s_draw := ⟨⟨_, fd_law_draw, ["_law_bag_here", "_law_top"], g_law_draw, F_law_draw.kp, o_law_draw, b_law_draw⟩⟩
  have b_law_is_whole : Binds K fd_law_is_whole ["_law_v"] [] := F_law_is_whole.bindsN fun _ _ _ _ _ _ us hl => match us, hl with | [_], _ => rfl
  have o_law_is_whole : FnOk P w K mg base (L2.CX P w) 1 _ fd_law_is_whole ["_law_v"] (liftSp K 1 s_law_is_whole) := def_ok F_law_is_whole sc_law_is_whole rfl (fun cdv A outer st H E hr => body_law_is_whole (B := B) (f := _) (cdv := cdv) (A := A) (outer := outer) (st := st) (H := H) (E := E) (hr := hr)) ok_law_is_whole
  have c_law_is_whole : Cal P w K mg base "_law_is_whole" 1 1 s_law_is_whole := ⟨⟨_, fd_law_is_whole, ["_law_v"], g_law_is_whole, F_law_is_whole.kp, o_law_is_whole, b_law_is_whole⟩⟩
  have b_law_common : Binds K fd_law_common ["_law_p", "_law_q"] [] := F_law_common.bindsN fun _ _ _ _ _ _ us hl => match us, hl with | [_, _], _ => rfl
  have o_law_common : FnOk P w K mg base (L2.CX P w) 1 _ fd_law_common ["_law_p", "_law_q"] (liftSp K 2 s_law_common) := def_ok F_law_common sc_law_common rfl (fun cdv A outer st H E hr => body_law_common (B := B) (f := _) (cdv := cdv) (A := A) (outer := outer) (st := st) (H := H) (E := E) (hr := hr)) ok_law_common
  have c_law_common : Cal P w K mg base "_law_common" 1 2 s_law_common := ⟨⟨_, fd_law_common, ["_law_p", "_law_q"], g_law_common, F_law_common.kp, o_law_common, b_law_common⟩⟩
  have b_divisor_of : Binds K fd_divisor_of ["numbers"] [] := F_divisor_of.bindsN fun _ _ _ _ _ _ us hl => match us, hl with | [_], _ => rfl
  have o_divisor_of : FnOk P w K mg base (L2.CX P w) 2 _ fd_divisor_of ["numbers"] (liftSp K 1 s_divisor_of) := def_ok F_divisor_of sc_divisor_of rfl (fun cdv A outer st H E hr => body_divisor_of (m_common_divisor := mono_rel) (c_common_divisor := c_common_divisor.mono (by decide)) (B := B) (f := _) (cdv := cdv) (A := A) (outer := outer) (st := st) (H := H) (E := E) (hr := hr)) ok_divisor_of
  have c_divisor_of : Cal P w K mg base "divisor_of" 2 1 s_divisor_of := ⟨⟨_, fd_divisor_of, ["numbers"], g_divisor_of, F_divisor_of.kp, o_divisor_of, b_divisor_of⟩⟩
  have b_fraction : Binds K fd_fraction ["n", "d"] [] := by
    obtain ⟨ds, hv, hb⟩ := F_fraction.binds1 (ps := ["n", "d"]) 2 1 (by intro e; cases e) rfl (fun T kV doc pm an cdv ct us its hu hi => match us, its, hu, hi with | [_, _], [_], _, _ => ⟨_, rfl, rfl⟩)
    rw [vals_nil hv] at hb
    exact hb
  have o_fraction : FnOk P w K mg base (L2.CX P w) 2 _ fd_fraction ["n", "d"] (liftSp K 2 s_fraction) := def_ok F_fraction sc_fraction rfl (fun cdv A outer st H E hr => body_fraction (m_common_divisor := mono_rel) (c_common_divisor := c_common_divisor.mono (by decide)) (B := B) (f := _) (cdv := cdv) (A := A) (outer := outer) (st := st) (H := H) (E := E) (hr := hr)) ok_fraction
  have c_fraction : Cal P w K mg base "fraction" 2 2 s_fraction := ⟨⟨_, fd_fraction, ["n", "d"], g_fraction, F_fraction.kp, o_fraction, b_fraction⟩⟩
  have b_law_pick : Binds K fd_law_pick ["_law_bag_here", "_law_some"] [] := F_law_pick.bindsN fun _ _ _ _ _ _ us hl => match us, hl with | [_, _], _ => rfl
  have o_law_pick : FnOk P w K mg base (L2.CX P w) 2 _ fd_law_pick ["_law_bag_here", "_law_some"] (liftSp K 2 s_law_pick) := def_ok F_law_pick sc_law_pick rfl (fun cdv A outer st H E hr => body_law_pick (m_law_draw := mono_rel) (c_law_draw := c_law_draw.mono (by decide)) (B := B) (f := _) (cdv := cdv) (A := A) (outer := outer) (st := st) (H := H) (E := E) (hr := hr)) ok_law_pick
  have c_law_pick : Cal P w K mg base "_law_pick" 2 2 s_law_pick := ⟨⟨_, fd_law_pick, ["_law_bag_here", "_law_some"], g_law_pick, F_law_pick.kp, o_law_pick, b_law_pick⟩⟩
  have b_law_low : Binds K fd_law_low ["_law_p", "_law_q"] [] := F_law_low.bindsN fun _ _ _ _ _ _ us hl => match us, hl with | [_, _], _ => rfl
  have o_law_low : FnOk P w K mg base (L2.CX P w) 2 _ fd_law_low ["_law_p", "_law_q"] (liftSp K 2 s_law_low) := def_ok F_law_low sc_law_low rfl (fun cdv A outer st H E hr => body_law_low (m_law_common := mono_rel) (c_law_common := c_law_common.mono (by decide)) (B := B) (f := _) (cdv := cdv) (A := A) (outer := outer) (st := st) (H := H) (E := E) (hr := hr)) ok_law_low
  have c_law_low : Cal P w K mg base "_law_low" 2 2 s_law_low := ⟨⟨_, fd_law_low, ["_law_p", "_law_q"], g_law_low, F_law_low.kp, o_law_low, b_law_low⟩⟩
  have b_plus : Binds K fd_plus ["one", "other"] [] := F_plus.bindsN fun _ _ _ _ _ _ us hl => match us, hl with | [_, _], _ => rfl
  have o_plus : FnOk P w K mg base (L2.CX P w) 3 _ fd_plus ["one", "other"] (liftSp K 2 s_plus) := def_ok F_plus sc_plus rfl (fun cdv A outer st H E hr => body_plus (m_fraction := mono_rel) (c_fraction := c_fraction.mono (by decide)) (B := B) (f := _) (cdv := cdv) (A := A) (outer := outer) (st := st) (H := H) (E := E) (hr := hr)) ok_plus
  have c_plus : Cal P w K mg base "plus" 3 2 s_plus := ⟨⟨_, fd_plus, ["one", "other"], g_plus, F_plus.kp, o_plus, b_plus⟩⟩
  have b_times : Binds K fd_times ["one", "other"] [] := F_times.bindsN fun _ _ _ _ _ _ us hl => match us, hl with | [_, _], _ => rfl
  have o_times : FnOk P w K mg base (L2.CX P w) 3 _ fd_times ["one", "other"] (liftSp K 2 s_times) := def_ok F_times sc_times rfl (fun cdv A outer st H E hr => body_times (m_fraction := mono_rel) (c_fraction := c_fraction.mono (by decide)) (B := B) (f := _) (cdv := cdv) (A := A) (outer := outer) (st := st) (H := H) (E := E) (hr := hr)) ok_times
  have c_times : Cal P w K mg base "times" 3 2 s_times := ⟨⟨_, fd_times, ["one", "other"], g_times, F_times.kp, o_times, b_times⟩⟩
  have b_product : Binds K fd_product ["one", "other"] [] := F_product.bindsN fun _ _ _ _ _ _ us hl => match us, hl with | [_, _], _ => rfl
  have o_product : FnOk P w K mg base (L2.CX P w) 3 _ fd_product ["one", "other"] (liftSp K 2 s_product) := def_ok F_product sc_product rfl (fun cdv A outer st H E hr => body_product (m_fraction := mono_rel) (c_fraction := c_fraction.mono (by decide)) (B := B) (f := _) (cdv := cdv) (A := A) (outer := outer) (st := st) (H := H) (E := E) (hr := hr)) ok_product
  have c_product : Cal P w K mg base "product" 3 2 s_product := ⟨⟨_, fd_product, ["one", "other"], g_product, F_product.kp, o_product, b_product⟩⟩
  have q_product_0_other_one : CalK P w K mg base "product" 3 2 s_product 0 ["other", "one"] [1, 0] [] := ⟨⟨_, fd_product, ["one", "other"], [], [], g_product, F_product.kp, o_product, PL.FunD.kb F_product 0 ["other", "one"] [1, 0] (fun _ _ _ _ _ _ us ws hu hw => match us, ws, hu, hw with | [], [_, _], _, _ => rfl), fun _ _ => Reps.nil⟩⟩
  have b_whole_factor : Binds K fd_whole_factor ["row"] [] := F_whole_factor.bindsN fun _ _ _ _ _ _ us hl => match us, hl with | [_], _ => rfl
  have o_whole_factor : FnOk P w K mg base (L2.CX P w) 3 _ fd_whole_factor ["row"] (liftSp K 1 s_whole_factor) := def_ok F_whole_factor sc_whole_factor rfl (fun cdv A outer st H E hr => body_whole_factor (m_common_divisor := mono_rel) (m_divisor_of := mono_rel) (m_fraction := mono_rel) (c_common_divisor := c_common_divisor.mono (by decide)) (c_divisor_of := c_divisor_of.mono (by decide)) (c_fraction := c_fraction.mono (by decide)) (k_ONE := k_ONE) (B := B) (f := _) (cdv := cdv) (A := A) (outer := outer) (st := st) (H := H) (E := E) (hr := hr)) ok_whole_factor
  have c_whole_factor : Cal P w K mg base "whole_factor" 3 1 s_whole_factor := ⟨⟨_, fd_whole_factor, ["row"], g_whole_factor, F_whole_factor.kp, o_whole_factor, b_whole_factor⟩⟩
  have b_law_plus : Binds K fd_law_plus ["_law_x", "_law_y"] [] := F_law_plus.bindsN fun _ _ _ _ _ _ us hl => match us, hl with | [_, _], _ => rfl
  have o_law_plus : FnOk P w K mg base (L2.CX P w) 3 _ fd_law_plus ["_law_x", "_law_y"] (liftSp K 2 s_law_plus) := def_ok F_law_plus sc_law_plus rfl (fun cdv A outer st H E hr => body_law_plus (m_law_low := mono_rel) (c_law_low := c_law_low.mono (by decide)) (B := B) (f := _) (cdv := cdv) (A := A) (outer := outer) (st := st) (H := H) (E := E) (hr := hr)) ok_law_plus
  have c_law_plus : Cal P w K mg base "_law_plus" 3 2 s_law_plus := ⟨⟨_, fd_law_plus, ["_law_x", "_law_y"], g_law_plus, F_law_plus.kp, o_law_plus, b_law_plus⟩⟩
  have b_law_times : Binds K fd_law_times ["_law_x", "_law_y"] [] := F_law_times.bindsN fun _ _ _ _ _ _ us hl => match us, hl with | [_, _], _ => rfl
  have o_law_times : FnOk P w K mg base (L2.CX P w) 3 _ fd_law_times ["_law_x", "_law_y"] (liftSp K 2 s_law_times) := def_ok F_law_times sc_law_times rfl (fun cdv A outer st H E hr => body_law_times (m_law_low := mono_rel) (c_law_low := c_law_low.mono (by decide)) (B := B) (f := _) (cdv := cdv) (A := A) (outer := outer) (st := st) (H := H) (E := E) (hr := hr)) ok_law_times
  have c_law_times : Cal P w K mg base "_law_times" 3 2 s_law_times := ⟨⟨_, fd_law_times, ["_law_x", "_law_y"], g_law_times, F_law_times.kp, o_law_times, b_law_times⟩⟩
  have b_law_dot : Binds K fd_law_dot ["_law_xs", "_law_ys"] [] := F_law_dot.bindsN fun _ _ _ _ _ _ us hl => match us, hl with | [_, _], _ => rfl
  have o_law_dot : FnOk P w K mg base (L2.CX P w) 3 _ fd_law_dot ["_law_xs", "_law_ys"] (liftSp K 2 s_law_dot) := def_ok F_law_dot sc_law_dot rfl (fun cdv A outer st H E hr => body_law_dot (m_law_low := mono_rel) (c_law_low := c_law_low.mono (by decide)) (B := B) (f := _) (cdv := cdv) (A := A) (outer := outer) (st := st) (H := H) (E := E) (hr := hr)) ok_law_dot
  have c_law_dot : Cal P w K mg base "_law_dot" 3 2 s_law_dot := ⟨⟨_, fd_law_dot, ["_law_xs", "_law_ys"], g_law_dot, F_law_dot.kp, o_law_dot, b_law_dot⟩⟩
  have b_law_small : Binds K fd_law_small ["_law_bag_here"] [] := F_law_small.bindsN fun _ _ _ _ _ _ us hl => match us, hl with | [_], _ => rfl
  have o_law_small : FnOk P w K mg base (L2.CX P w) 3 _ fd_law_small ["_law_bag_here"] (liftSp K 1 s_law_small) := def_ok F_law_small sc_law_small rfl (fun cdv A outer st H E hr => body_law_small (m_law_draw := mono_rel) (m_law_low := mono_rel) (m_law_pick := mono_rel) (c_law_pick := c_law_pick.mono (by decide)) (c_law_draw := c_law_draw.mono (by decide)) (c_law_low := c_law_low.mono (by decide)) (B := B) (f := _) (cdv := cdv) (A := A) (outer := outer) (st := st) (H := H) (E := E) (hr := hr)) ok_law_small
  have c_law_small : Cal P w K mg base "_law_small" 3 1 s_law_small := ⟨⟨_, fd_law_small, ["_law_bag_here"], g_law_small, F_law_small.kp, o_law_small, b_law_small⟩⟩
  have b_law_fraction : Binds K fd_law_fraction ["_law_bag_here"] [] := F_law_fraction.bindsN fun _ _ _ _ _ _ us hl => match us, hl with | [_], _ => rfl
  have o_law_fraction : FnOk P w K mg base (L2.CX P w) 3 _ fd_law_fraction ["_law_bag_here"] (liftSp K 1 s_law_fraction) := def_ok F_law_fraction sc_law_fraction rfl (fun cdv A outer st H E hr => body_law_fraction (m_law_draw := mono_rel) (m_law_low := mono_rel) (m_law_pick := mono_rel) (c_law_pick := c_law_pick.mono (by decide)) (c_law_draw := c_law_draw.mono (by decide)) (c_law_low := c_law_low.mono (by decide)) (B := B) (f := _) (cdv := cdv) (A := A) (outer := outer) (st := st) (H := H) (E := E) (hr := hr)) ok_law_fraction
  have c_law_fraction : Cal P w K mg base "_law_fraction" 3 1 s_law_fraction := ⟨⟨_, fd_law_fraction, ["_law_bag_here"], g_law_fraction, F_law_fraction.kp, o_law_fraction, b_law_fraction⟩⟩
  have b_scaled : Binds K fd_scaled ["row", "value"] [] := F_scaled.bindsN fun _ _ _ _ _ _ us hl => match us, hl with | [_, _], _ => rfl
  have o_scaled : FnOk P w K mg base (L2.CX P w) 4 _ fd_scaled ["row", "value"] (liftSp K 2 s_scaled) := def_ok F_scaled sc_scaled rfl (fun cdv A outer st H E hr => body_scaled (m_times := mono_rel) (c_times := c_times.mono (by decide)) (B := B) (f := _) (cdv := cdv) (A := A) (outer := outer) (st := st) (H := H) (E := E) (hr := hr)) ok_scaled
  have c_scaled : Cal P w K mg base "scaled" 4 2 s_scaled := ⟨⟨_, fd_scaled, ["row", "value"], g_scaled, F_scaled.kp, o_scaled, b_scaled⟩⟩
  have q_scaled_0_value_row : CalK P w K mg base "scaled" 4 2 s_scaled 0 ["value", "row"] [1, 0] [] := ⟨⟨_, fd_scaled, ["row", "value"], [], [], g_scaled, F_scaled.kp, o_scaled, PL.FunD.kb F_scaled 0 ["value", "row"] [1, 0] (fun _ _ _ _ _ _ us ws hu hw => match us, ws, hu, hw with | [], [_, _], _, _ => rfl), fun _ _ => Reps.nil⟩⟩
  have b_added : Binds K fd_added ["one", "other"] [] := F_added.bindsN fun _ _ _ _ _ _ us hl => match us, hl with | [_, _], _ => rfl
  have o_added : FnOk P w K mg base (L2.CX P w) 4 _ fd_added ["one", "other"] (liftSp K 2 s_added) := def_ok F_added sc_added rfl (fun cdv A outer st H E hr => body_added (m_plus := mono_rel) (c_plus := c_plus.mono (by decide)) (B := B) (f := _) (cdv := cdv) (A := A) (outer := outer) (st := st) (H := H) (E := E) (hr := hr)) ok_added
  have c_added : Cal P w K mg base "added" 4 2 s_added := ⟨⟨_, fd_added, ["one", "other"], g_added, F_added.kp, o_added, b_added⟩⟩
  have q_added_0_other_one : CalK P w K mg base "added" 4 2 s_added 0 ["other", "one"] [1, 0] [] := ⟨⟨_, fd_added, ["one", "other"], [], [], g_added, F_added.kp, o_added, PL.FunD.kb F_added 0 ["other", "one"] [1, 0] (fun _ _ _ _ _ _ us ws hu hw => match us, ws, hu, hw with | [], [_, _], _, _ => rfl), fun _ _ => Reps.nil⟩⟩
  have b_whole_row : Binds K fd_whole_row ["row"] [] := F_whole_row.bindsN fun _ _ _ _ _ _ us hl => match us, hl with | [_], _ => rfl
  have o_whole_row : FnOk P w K mg base (L2.CX P w) 4 _ fd_whole_row ["row"] (liftSp K 1 s_whole_row) := def_ok F_whole_row sc_whole_row rfl (fun cdv A outer st H E hr => body_whole_row (m_whole_factor := mono_rel) (c_whole_factor := c_whole_factor.mono (by decide)) (B := B) (f := _) (cdv := cdv) (A := A) (outer := outer) (st := st) (H := H) (E := E) (hr := hr)) ok_whole_row
  have c_whole_row : Cal P w K mg base "whole_row" 4 1 s_whole_row := ⟨⟨_, fd_whole_row, ["row"], g_whole_row, F_whole_row.kp, o_whole_row, b_whole_row⟩⟩
  have q_whole_row_0_row : CalK P w K mg base "whole_row" 4 1 s_whole_row 0 ["row"] [0] [] := ⟨⟨_, fd_whole_row, ["row"], [], [], g_whole_row, F_whole_row.kp, o_whole_row, PL.FunD.kb F_whole_row 0 ["row"] [0] (fun _ _ _ _ _ _ us ws hu hw => match us, ws, hu, hw with | [], [_], _, _ => rfl), fun _ _ => Reps.nil⟩⟩
  have b_law_same : Binds K fd_law_same ["_law_found", "_law_due"] [] := F_law_same.bindsN fun _ _ _ _ _ _ us hl => match us, hl with | [_, _], _ => rfl
  have r_law_same : ∀ j : Nat, FnOk P w K mg base (L2.CX P w) (0 + j) (He.ga K "_law_same") fd_law_same ["_law_found", "_law_due"] (liftSp K 2 (s_same j)) := by
    intro j
    induction j with
    | zero => exact fn_none (fun ds x Q h => by obtain ⟨⟨_, _, z⟩, _⟩ := h; exact z)
    | succ j ih =>
      have cr : Cal P w K mg base "_law_same" (0 + j) 2 (s_same j) := ⟨⟨_, fd_law_same, ["_law_found", "_law_due"], g_law_same, F_law_same.kp, ih, b_law_same⟩⟩
      exact def_ok F_law_same sc_law_same rfl (fun cdv A outer st H E hr => body_law_same (m_law_same := mono_rel) (c_law_same := cr) (B := B) (f := _) (cdv := cdv) (A := A) (outer := outer) (st := st) (H := H) (E := E) (hr := hr)) (ok_law_same j)
  have o_law_same := r_law_same 4
  have c_law_same : Cal P w K mg base "_law_same" 4 2 (s_same 4) := ⟨⟨_, fd_law_same, ["_law_found", "_law_due"], g_law_same, F_law_same.kp, o_law_same, b_law_same⟩⟩
  have b_law_row : Binds K fd_law_row ["_law_bag_here", "_law_size"] [] := F_law_row.bindsN fun _ _ _ _ _ _ us hl => match us, hl with | [_, _], _ => rfl
  have o_law_row : FnOk P w K mg base (L2.CX P w) 4 _ fd_law_row ["_law_bag_here", "_law_size"] (liftSp K 2 s_law_row) := def_ok F_law_row sc_law_row rfl (fun cdv A outer st H E hr => body_law_row (m_law_draw := mono_rel) (m_law_fraction := mono_rel) (m_law_small := mono_rel) (c_law_draw := c_law_draw.mono (by decide)) (c_law_fraction := c_law_fraction.mono (by decide)) (c_law_small := c_law_small.mono (by decide)) (B := B) (f := _) (cdv := cdv) (A := A) (outer := outer) (st := st) (H := H) (E := E) (hr := hr)) ok_law_row
  have c_law_row : Cal P w K mg base "_law_row" 4 2 s_law_row := ⟨⟨_, fd_law_row, ["_law_bag_here", "_law_size"], g_law_row, F_law_row.kp, o_law_row, b_law_row⟩⟩
  have b_law_whole_so : Binds K fd_law_whole_so ["_law_r"] [] := F_law_whole_so.bindsN fun _ _ _ _ _ _ us hl => match us, hl with | [_], _ => rfl
  have o_law_whole_so : FnOk P w K mg base (L2.CX P w) 5 _ fd_law_whole_so ["_law_r"] (liftSp K 1 s_law_whole_so) := def_ok F_law_whole_so sc_law_whole_so rfl (fun cdv A outer st H E hr => body_law_whole_so (m_law_common := mono_rel) (m_law_is_whole := mono_rel) (m_whole_row := mono_rel) (c_whole_row := c_whole_row.mono (by decide)) (c_law_is_whole := c_law_is_whole.mono (by decide)) (c_law_common := c_law_common.mono (by decide)) (B := B) (f := _) (cdv := cdv) (A := A) (outer := outer) (st := st) (H := H) (E := E) (hr := hr)) ok_law_whole_so
  have c_law_whole_so : Cal P w K mg base "_law_whole_so" 5 1 s_law_whole_so := ⟨⟨_, fd_law_whole_so, ["_law_r"], g_law_whole_so, F_law_whole_so.kp, o_law_whole_so, b_law_whole_so⟩⟩
  have b_law_two_so : Binds K fd_law_two_so ["_law_r", "_law_s", "_law_x"] [] := F_law_two_so.bindsN fun _ _ _ _ _ _ us hl => match us, hl with | [_, _, _], _ => rfl
  have o_law_two_so : FnOk P w K mg base (L2.CX P w) 6 _ fd_law_two_so ["_law_r", "_law_s", "_law_x"] (liftSp K 3 s_law_two_so) := def_ok F_law_two_so sc_law_two_so rfl (fun cdv A outer st H E hr => body_law_two_so (m_added := mono_rel) (m_law_dot := mono_rel) (m_law_plus := mono_rel) (m_law_same := mono_rel) (m_law_times := mono_rel) (m_law_whole_so := mono_rel) (m_product := mono_rel) (m_scaled := mono_rel) (c_law_dot := c_law_dot.mono (by decide)) (c_product := c_product.mono (by decide)) (c_law_same := c_law_same.mono (by decide)) (c_law_times := c_law_times.mono (by decide)) (c_scaled := c_scaled.mono (by decide)) (c_law_plus := c_law_plus.mono (by decide)) (c_added := c_added.mono (by decide)) (c_law_whole_so := c_law_whole_so.mono (by decide)) (q_product_0_other_one := q_product_0_other_one.mono (by decide)) (q_scaled_0_value_row := q_scaled_0_value_row.mono (by decide)) (q_added_0_other_one := q_added_0_other_one.mono (by decide)) (B := B) (f := _) (cdv := cdv) (A := A) (outer := outer) (st := st) (H := H) (E := E) (hr := hr)) ok_law_two_so
  have c_law_two_so : Cal P w K mg base "_law_two_so" 6 3 s_law_two_so := ⟨⟨_, fd_law_two_so, ["_law_r", "_law_s", "_law_x"], g_law_two_so, F_law_two_so.kp, o_law_two_so, b_law_two_so⟩⟩
  have b_law_tied_so : Binds K fd_law_tied_so ["_law_r", "_law_s", "_law_t", "_law_x"] [] := F_law_tied_so.bindsN fun _ _ _ _ _ _ us hl => match us, hl with | [_, _, _, _], _ => rfl
  have o_law_tied_so : FnOk P w K mg base (L2.CX P w) 6 _ fd_law_tied_so ["_law_r", "_law_s", "_law_t", "_law_x"] (liftSp K 4 s_law_tied_so) := def_ok F_law_tied_so sc_law_tied_so rfl (fun cdv A outer st H E hr => body_law_tied_so (m_added := mono_rel) (m_law_plus := mono_rel) (m_law_same := mono_rel) (m_law_times := mono_rel) (m_law_whole_so := mono_rel) (m_product := mono_rel) (m_scaled := mono_rel) (m_whole_row := mono_rel) (c_added := c_added.mono (by decide)) (c_product := c_product.mono (by decide)) (c_law_plus := c_law_plus.mono (by decide)) (c_law_same := c_law_same.mono (by decide)) (c_law_times := c_law_times.mono (by decide)) (c_scaled := c_scaled.mono (by decide)) (c_law_whole_so := c_law_whole_so.mono (by decide)) (c_whole_row := c_whole_row.mono (by decide)) (q_whole_row_0_row := q_whole_row_0_row.mono (by decide)) (B := B) (f := _) (cdv := cdv) (A := A) (outer := outer) (st := st) (H := H) (E := E) (hr := hr)) ok_law_tied_so
  have c_law_tied_so : Cal P w K mg base "_law_tied_so" 6 4 s_law_tied_so := ⟨⟨_, fd_law_tied_so, ["_law_r", "_law_s", "_law_t", "_law_x"], g_law_tied_so, F_law_tied_so.kp, o_law_tied_so, b_law_tied_so⟩⟩
  exact law_fn F_law sc_law rfl (by decide) (fun cdv A outer st H E hr => body_law (m_law_draw := mono_rel) (m_law_fraction := mono_rel) (m_law_pick := mono_rel) (m_law_row := mono_rel) (m_law_small := mono_rel) (m_law_tied_so := mono_rel) (m_law_two_so := mono_rel) (c_law_pick := c_law_pick.mono (by decide)) (c_law_row := c_law_row.mono (by decide)) (c_law_fraction := c_law_fraction.mono (by decide)) (c_law_small := c_law_small.mono (by decide)) (c_law_draw := c_law_draw.mono (by decide)) (c_law_two_so := c_law_two_so.mono (by decide)) (c_law_tied_so := c_law_tied_so.mono (by decide)) (B := B) (cb := c_law_bag.mono (by decide)) (f := _) (cdv := cdv) (A := A) (outer := outer) (st := st) (H := H) (E := E) (hr := hr)) (law_read _ rfl _)
end Law
open PySem PySem.W PySem.Calls PyProof.Rows
theorem PySem.Challenge.cw_shutopen_k03_rows_and_products_holds : PySem.Challenge.rw_shutopen_k03_rows_and_products.Holds := by
  w_on; o_law
  refine HandSHeadRun.head_any (r := OpenLaw.row PySem.Challenge.rw_shutopen_k03_rows_and_products) (q := view (OpenLaw.row PySem.Challenge.rw_shutopen_k03_rows_and_products).prog [33]) (H := Law.hk) (ob := Law.ob) (M := 4000) (loose := Law.loose) (d := HandSHeadRun.topDef (OpenLaw.row PySem.Challenge.rw_shutopen_k03_rows_and_products).prog 33) (kwd := []) Law.ob_eq
    (by kernel_rfl) (fun s => by kernel_rfl) Law.run (by kernel_rfl) (by kernel_rfl) (by kernel_rfl) (by rfl) (by first | assumption | decide +kernel) (by decide +kernel) ⟨rfl, rfl, rfl, rfl, rfl, by decide +kernel⟩ ?hw ?hc
  case hw => w_witness2
  case hc =>
    refine PL.law_end (L := PySem.Challenge.rw_shutopen_k03_rows_and_products) (N := 63) (lv := 7) (nm := "_law_script") (C := fun w => L2.CX (PySem.Challenge.rw_shutopen_k03_rows_and_products).prog w) rfl (by decide) (by kernel_rfl) ⟨rfl, by decide, by decide⟩ ?F (fun w H s e s' z => PL.noCX H s e s' z)
    intro w mg fa h Y G hmg0
    obtain ⟨K, KX, c⟩ := Y
    have hmg : mg ("law" : PySem.Str) = some (.ref fa) := by
      have e : (HandSHeadRun.topDef (OpenLaw.row PySem.Challenge.rw_shutopen_k03_rows_and_products).prog 33).name = ("law" : PySem.Str) := by kernel_rfl
      rw [← e]
      exact hmg0
    obtain ⟨fd, hb, hF⟩ := Law.facts (P := (PySem.Challenge.rw_shutopen_k03_rows_and_products).prog) (w := w) KX G hmg c
    exact ⟨K, fd, PL.spLaw K, ⟨KX, hb⟩, fun H a ns hl hS => ⟨a, ns, rfl, hS, hl, fun _ => rfl⟩, hF⟩
