import PyProof.Rows.All
import Wide.All
import OpenK.AllK
import Wide.FinOn
import HandS.ForMost
import HandS.IsInst
import HandS.TupAny
import HandS.WrittenGet
import HandS.Conv
import KE.DataMinMax
import KE.SortData
import PySem.Challenge.RW_jumpsay_k08_whole_more_pairs
set_option Elab.async false
set_option linter.all false
set_option maxRecDepth 100000
set_option maxHeartbeats 4000000
/-! Pure data over the abstract heap, and weakest preconditions over data. -/
namespace J
open PySem L2

/-! ### data at a value -/
mutual
inductive DD (H : Hp) : V → PyData → Prop
  | non : DD H .non .none
  | bl (b : Bool) : DD H (.bl b) (.bool b)
  | int (i : Int) : DD H (.int i) (.int i)
  | str (x : Str) : DD H (.str x) (.str x)
  | lst {a : Addr} {xs : List V} {ds : List PyData} : H a = some (.lst xs) → DDs H xs ds → DD H (.ref a) (.list ds)
  | tup {a : Addr} {xs : List V} {ds : List PyData} : H a = some (.tup xs) → DDs H xs ds → DD H (.ref a) (.tuple ds)
inductive DDs (H : Hp) : List V → List PyData → Prop
  | nil : DDs H [] []
  | cons {v : V} {vs : List V} {d : PyData} {ds : List PyData} : DD H v d → DDs H vs ds → DDs H (v :: vs) (d :: ds)
end
mutual
theorem DD.mono {H H' : Hp} (e : Same H H') : ∀ (d : PyData) (v : V), DD H v d → DD H' v d
  | .none, _, h => by cases h; exact .non
  | .bool b, _, h => by cases h; exact .bl b
  | .int i, _, h => by cases h; exact .int i
  | .str x, _, h => by cases h; exact .str x
  | .list ds, _, h => by
    cases h with
    | lst ha hs => exact .lst (e _ _ ha) (DDs.mono e ds _ hs)
  | .tuple ds, _, h => by
    cases h with
    | tup ha hs => exact .tup (e _ _ ha) (DDs.mono e ds _ hs)
  | .dict _, _, h => by cases h
theorem DDs.mono {H H' : Hp} (e : Same H H') : ∀ (ds : List PyData) (vs : List V), DDs H vs ds → DDs H' vs ds
  | [], _, h => by cases h; exact .nil
  | d :: ds, _, h => by
    cases h with
    | cons h1 h2 => exact .cons (DD.mono e d _ h1) (DDs.mono e ds _ h2)
end
mutual
theorem DD.dp {K : PySem.W.Frag} {H : Hp} : ∀ (d : PyData) (v : V), DD H v d → Dp K H v d
  | .none, _, h => by cases h; exact .non
  | .bool b, _, h => by cases h; exact .bl b
  | .int i, _, h => by cases h; exact .int i
  | .str x, _, h => by cases h; exact .str x
  | .list ds, _, h => by
    cases h with
    | lst ha hs => exact .lst (SqL.of ha) (DDs.dp ds _ hs)
  | .tuple ds, _, h => by
    cases h with
    | tup ha hs => exact .tup (SqT.of ha) (DDs.dp ds _ hs)
  | .dict _, _, h => by cases h
theorem DDs.dp {K : PySem.W.Frag} {H : Hp} : ∀ (ds : List PyData) (vs : List V), DDs H vs ds → DpAll K H vs ds
  | [], _, h => by cases h; exact .nil
  | d :: ds, _, h => by
    cases h with
    | cons h1 h2 => exact .cons (DD.dp d _ h1) (DDs.dp ds _ h2)
end
theorem DDs.len {H : Hp} : ∀ {vs : List V} {ds : List PyData}, DDs H vs ds → vs.length = ds.length
  | [], _, h => by cases h; rfl
  | v :: vs, _, h => by
    cases h with
    | cons _ h2 => simp only [List.length_cons, DDs.len h2]
theorem DDs.get {H : Hp} : ∀ {vs : List V} {ds : List PyData} {i : Nat} {d : PyData}, DDs H vs ds → ds[i]? = some d → ∃ v, vs[i]? = some v ∧ DD H v d
  | [], _, _, _, h, e => by cases h; cases e
  | v :: vs, _, 0, _, h, e => by
    cases h with
    | cons h1 _ => cases e; exact ⟨_, rfl, h1⟩
  | v :: vs, _, i + 1, _, h, e => by
    cases h with
    | cons _ h2 =>
      obtain ⟨u, h3, h4⟩ := DDs.get (i := i) h2 e
      exact ⟨u, h3, h4⟩
theorem DDs.get' {H : Hp} : ∀ {vs : List V} {ds : List PyData} {i : Nat} {v : V}, DDs H vs ds → vs[i]? = some v → ∃ d, ds[i]? = some d ∧ DD H v d
  | [], _, _, _, h, e => by cases e
  | v :: vs, _, 0, _, h, e => by
    cases h with
    | cons h1 _ => cases e; exact ⟨_, rfl, h1⟩
  | v :: vs, _, i + 1, _, h, e => by
    cases h with
    | cons _ h2 =>
      obtain ⟨u, h3, h4⟩ := DDs.get' (i := i) h2 e
      exact ⟨u, h3, h4⟩
theorem DDs.app {H : Hp} : ∀ {vs us : List V} {ds es : List PyData}, DDs H vs ds → DDs H us es → DDs H (vs ++ us) (ds ++ es)
  | [], _, _, _, h, k => by cases h; exact k
  | v :: vs, _, _, _, h, k => by
    cases h with
    | cons h1 h2 => exact .cons h1 (DDs.app h2 k)
theorem DDs.one {H : Hp} {v : V} {d : PyData} (h : DD H v d) : DDs H [v] [d] := .cons h .nil
theorem DDs.take {H : Hp} : ∀ {vs : List V} {ds : List PyData} (n : Nat), DDs H vs ds → DDs H (vs.take n) (ds.take n)
  | _, _, 0, _ => by simp only [List.take_zero]; exact .nil
  | [], _, n + 1, h => by cases h; simp only [List.take_nil]; exact .nil
  | v :: vs, _, n + 1, h => by
    cases h with
    | cons h1 h2 => exact .cons h1 (DDs.take n h2)
theorem DDs.drop {H : Hp} : ∀ {vs : List V} {ds : List PyData} (n : Nat), DDs H vs ds → DDs H (vs.drop n) (ds.drop n)
  | _, _, 0, h => h
  | [], _, n + 1, h => by cases h; simp only [List.drop_nil]; exact .nil
  | v :: vs, _, n + 1, h => by
    cases h with
    | cons h1 h2 => exact DDs.drop n h2
theorem DDs.at_ {H : Hp} {vs : List V} {ds : List PyData} {i : Int} {d : PyData} (h : DDs H vs ds) (e : atI ds i = some d) : ∃ v, atI vs i = some v ∧ DD H v d := by
  unfold atI at e ⊢
  rw [h.len]
  cases q : ixN ds.length i with
  | none => rw [q] at e; cases e
  | some j =>
    rw [q] at e
    exact h.get e
theorem DDs.ints {H : Hp} : ∀ (ns : List Int), DDs H (ns.map V.int) (ns.map PyData.int)
  | [] => .nil
  | n :: r => .cons (.int n) (DDs.ints r)
theorem DDs.of_ints {H : Hp} : ∀ {ns : List Int} {vs : List V}, DDs H vs (ns.map PyData.int) → vs = ns.map V.int
  | [], _, h => by cases h; rfl
  | n :: r, _, h => by
    cases h with
    | cons h1 h2 => cases h1; rw [DDs.of_ints h2]; rfl
theorem DDs.of_bools {H : Hp} : ∀ {ns : List Bool} {vs : List V}, DDs H vs (ns.map PyData.bool) → vs = ns.map V.bl
  | [], _, h => by cases h; rfl
  | n :: r, _, h => by
    cases h with
    | cons h1 h2 => cases h1; rw [DDs.of_bools h2]; rfl

/-! ### a heap without some addresses -/
open Classical in
noncomputable def cut (B : Addr → Prop) (H : Hp) : Hp := fun a => if B a then none else H a
theorem cut_get {B : Addr → Prop} {H : Hp} {a : Addr} {o : HO} (h : cut B H a = some o) : H a = some o ∧ ¬ B a := by
  unfold cut at h
  by_cases b : B a
  · rw [if_pos b] at h; cases h
  · rw [if_neg b] at h; exact ⟨h, b⟩
theorem cut_of {B : Addr → Prop} {H : Hp} {a : Addr} {o : HO} (h : H a = some o) (b : ¬ B a) : cut B H a = some o := by
  unfold cut
  rw [if_neg b]
  exact h
theorem cut_same {B : Addr → Prop} {H : Hp} : Same (cut B H) H := fun _ _ h => (cut_get h).1
theorem cut_mono {B B' : Addr → Prop} {H : Hp} (h : ∀ a, B' a → B a) : Same (cut B H) (cut B' H) := fun _ _ e => cut_of (cut_get e).1 fun z => (cut_get e).2 (h _ z)
/-- all that was tracked is as it was, but at F -/
def Fr (F : Addr → Prop) (H H' : Hp) : Prop := ∀ a o, H a = some o → ¬ F a → H' a = some o
theorem Fr.refl {F : Addr → Prop} {H : Hp} : Fr F H H := fun _ _ h _ => h
theorem Fr.trans {F : Addr → Prop} {H H1 H2 : Hp} (a : Fr F H H1) (b : Fr F H1 H2) : Fr F H H2 := fun c o h n => b c o (a c o h n) n
theorem Fr.of {F : Addr → Prop} {H H' : Hp} (e : Same H H') : Fr F H H' := fun a o h _ => e a o h
theorem Fr.mono {F F' : Addr → Prop} {H H' : Hp} (e : Fr F H H') (h : ∀ a, F a → F' a) : Fr F' H H' := fun a o q n => e a o q fun z => n (h a z)
theorem Fr.same {H H' : Hp} (e : Fr (fun _ => False) H H') : Same H H' := fun a o h => e a o h fun z => z
theorem Fr.cut {F B : Addr → Prop} {H H' : Hp} (e : Fr F H H') (h : ∀ a, F a → B a) : Same (cut B H) (cut B H') := fun a o q => by
  obtain ⟨h1, h2⟩ := cut_get q
  exact cut_of (e a o h1 fun z => h2 (h a z)) h2
theorem same_new {H : Hp} {p : Addr} {o : HO} (h : H p = none) : Same H (upd H p o) := fun b u q => by rw [upd_ne (ne_of_none q h)]; exact q

/-! ### what is changed besides: a store -/
structure Sto where
  S : Type
  F : Addr → Prop
  At : S → Hp → Prop
  loc : ∀ s H H', (∀ a o, F a → H a = some o → H' a = some o) → At s H → At s H'
  dom : ∀ s H a, At s H → F a → H a ≠ none
/-- nothing -/
@[reducible] def uS : Sto := ⟨Unit, fun _ => False, fun _ _ => True, fun _ _ _ _ h => h, fun _ _ _ _ h => h.elim⟩

/-- what a slot is known to hold -/
inductive W where
  | d (x : PyData)
  | v (x : V)
  | own (xs : List PyData)
abbrev DEnv := List (Option W)
def View (T : Sto) (H0 : Hp) (B : Addr → Prop) (H : Hp) (u : Option V) : W → Prop
  | .d x => ∃ v, u = some v ∧ DD (cut B H) v x
  | .v x => u = some x
  | .own xs => ∃ p vs, u = some (.ref p) ∧ B p ∧ ¬ T.F p ∧ H0 p = none ∧ H p = some (.lst vs) ∧ DDs (cut B H) vs xs
structure Cxt (T : Sto) (A0 : Addr → Prop) (H0 : Hp) (B : Addr → Prop) (σ : St) (H : Hp) (s : T.S) (ρ : DEnv) : Prop where
  fb : ∀ a, T.F a → B a
  dm : ∀ a, B a → H a ≠ none
  at_ : T.At s H
  ln : σ.length = ρ.length
  sl : ∀ (i : Nat) (w : W), ρ[i]? = some (some w) → View T H0 B H (σ[i]?.join) w
  fr : Fr T.F H0 H
  ab : ∀ a, A0 a → B a
  d0 : ∀ a, A0 a → H0 a ≠ none
  ba : ∀ a, B a → A0 a ∨ T.F a ∨ H0 a = none
  ow : ∀ (i j : Nat) (xs ys : List PyData) (p : Addr), ρ[i]? = some (some (.own xs)) → ρ[j]? = some (some (.own ys)) → i ≠ j → σ[i]? = some (some (.ref p)) → σ[j]? ≠ some (some (.ref p))
section
variable {T : Sto} {A0 : Addr → Prop} {H0 : Hp} {B : Addr → Prop} {σ : St} {H H' : Hp} {s s' : T.S} {ρ : DEnv}
theorem View.step {u : Option V} {w : W} (fb : ∀ a, T.F a → B a) (e : Fr T.F H H') (h : View T H0 B H u w) : View T H0 B H' u w := by
  cases w with
  | d x => obtain ⟨v, h1, h2⟩ := h; exact ⟨v, h1, DD.mono (e.cut fb) _ _ h2⟩
  | v x => exact h
  | own xs => obtain ⟨p, vs, h1, h2, h3, h5, h6, h7⟩ := h; exact ⟨p, vs, h1, h2, h3, h5, e _ _ h6 h3, DDs.mono (e.cut fb) _ _ h7⟩
theorem Cxt.step (c : Cxt T A0 H0 B σ H s ρ) (e : Fr T.F H H') (h : T.At s' H') : Cxt T A0 H0 B σ H' s' ρ where
  fb := c.fb
  dm := fun a b => by
    by_cases f : T.F a
    · exact T.dom _ _ _ h f
    · cases q : H a with
      | none => exact absurd q (c.dm a b)
      | some o => rw [e a o q f]; exact fun z => nomatch z
  at_ := h
  ln := c.ln
  sl := fun i w q => (c.sl i w q).step c.fb e
  fr := c.fr.trans e
  ab := c.ab
  d0 := c.d0
  ba := c.ba
  ow := c.ow
theorem Cxt.grow (c : Cxt T A0 H0 B σ H s ρ) (e : Same H H') : Cxt T A0 H0 B σ H' s ρ := c.step (Fr.of e) (T.loc s H H' (fun a o _ h => e a o h) c.at_)
end

/-! ### weakest preconditions over data -/
def WE (T : Sto) (te : TE) (s : T.S) (ρ : DEnv) (Φ : PyData → T.S → Prop) : Prop :=
  ∀ (A0 : Addr → Prop) (H0 : Hp) (B : Addr → Prop) (σ : St) (H : Hp), Cxt T A0 H0 B σ H s ρ → ∀ Q : VK, (∀ v H' x s', Φ x s' → Fr T.F H H' → T.At s' H' → DD (cut B H') v x → Q v H') → te σ H Q
def WT (T : Sto) (tt : TT) (s : T.S) (ρ : DEnv) (Φ : Bool → T.S → Prop) : Prop :=
  ∀ (A0 : Addr → Prop) (H0 : Hp) (B : Addr → Prop) (σ : St) (H : Hp), Cxt T A0 H0 B σ H s ρ → ∀ Q : Bool → Hp → Prop, (∀ b H' s', Φ b s' → Fr T.F H H' → T.At s' H' → Q b H') → tt σ H Q
def WA (T : Sto) (ta : TA) (s : T.S) (ρ : DEnv) (Φ : List PyData → T.S → Prop) : Prop :=
  ∀ (A0 : Addr → Prop) (H0 : Hp) (B : Addr → Prop) (σ : St) (H : Hp), Cxt T A0 H0 B σ H s ρ → ∀ Q : List V → Hp → Prop, (∀ vs H' xs s', Φ xs s' → Fr T.F H H' → T.At s' H' → DDs (cut B H') vs xs → Q vs H') → ta σ H Q
def WS (T : Sto) (ts : TS) (s : T.S) (ρ : DEnv) (R : PyData → T.S → Prop) (N : DEnv → T.S → Prop) : Prop :=
  ∀ (A0 : Addr → Prop) (H0 : Hp) (B : Addr → Prop) (σ : St) (H : Hp), Cxt T A0 H0 B σ H s ρ → ∀ D : Ends, (∀ v H' x s', R x s' → Fr T.F H0 H' → T.At s' H' → DD (cut A0 H') v x → D.rt v H') →
    (∀ B' σ' H' s' ρ', N ρ' s' → Cxt T A0 H0 B' σ' H' s' ρ' → D.nx σ' H') → ts D σ H
/-- a two-place operation, a one-place one, a call, a slice, over data -/
def RD (r : R2) (x y : PyData) (Φ : PyData → Prop) : Prop :=
  ∀ (B : Addr → Prop) (H : Hp) (v w : V) (Q : VK), (∀ a, B a → H a ≠ none) → DD (cut B H) v x → DD (cut B H) w y → (∀ u H' z, Φ z → Same H H' → DD (cut B H') u z → Q u H') → r v w H Q
def R1 (r : V → Hp → VK → Prop) (x : PyData) (Φ : PyData → Prop) : Prop :=
  ∀ (B : Addr → Prop) (H : Hp) (v : V) (Q : VK), (∀ a, B a → H a ≠ none) → DD (cut B H) v x → (∀ u H' z, Φ z → Same H H' → DD (cut B H') u z → Q u H') → r v H Q
def RC (r : List V → Hp → VK → Prop) (xs : List PyData) (Φ : PyData → Prop) : Prop :=
  ∀ (B : Addr → Prop) (H : Hp) (vs : List V) (Q : VK), (∀ a, B a → H a ≠ none) → DDs (cut B H) vs xs → (∀ u H' z, Φ z → Same H H' → DD (cut B H') u z → Q u H') → r vs H Q
def RS (r : V → Option Int → Option Int → Hp → VK → Prop) (x : PyData) (l h : Option Int) (Φ : PyData → Prop) : Prop :=
  ∀ (B : Addr → Prop) (H : Hp) (v : V) (Q : VK), (∀ a, B a → H a ≠ none) → DD (cut B H) v x → (∀ u H' z, Φ z → Same H H' → DD (cut B H') u z → Q u H') → r v l h H Q

section
variable {T : Sto} {s : T.S} {ρ : DEnv} {Φ : PyData → T.S → Prop} {ta tb te : TE} {t u : TT}
theorem WE.mono {Ψ : PyData → T.S → Prop} (h : WE T te s ρ Φ) (k : ∀ x s, Φ x s → Ψ x s) : WE T te s ρ Ψ := fun A0 H0 B σ H c Q q => h A0 H0 B σ H c Q fun v H' x s' f => q v H' x s' (k x s' f)
theorem wp_var {i : Nat} {x : PyData} (h : ρ[i]? = some (some (.d x))) (q : Φ x s) : WE T (tVar i) s ρ Φ := fun A0 H0 B σ H c Q k => by
  obtain ⟨v, h1, h2⟩ := c.sl i _ h
  refine ⟨v, ?_, k v H x s q Fr.refl c.at_ h2⟩
  cases e : σ[i]? with
  | none => rw [e] at h1; cases h1
  | some o => rw [e] at h1; exact congrArg some h1
theorem wp_int {i : Int} (q : Φ (.int i) s) : WE T (tC (.int i)) s ρ Φ := fun _ _ B _ H c Q k => k _ H _ s q Fr.refl c.at_ (.int i)
theorem wp_str {i : Str} (q : Φ (.str i) s) : WE T (tC (.str i)) s ρ Φ := fun _ _ B _ H c Q k => k _ H _ s q Fr.refl c.at_ (.str i)
theorem wp_bl {i : Bool} (q : Φ (.bool i) s) : WE T (tC (.bl i)) s ρ Φ := fun _ _ B _ H c Q k => k _ H _ s q Fr.refl c.at_ (.bl i)
theorem wp_non (q : Φ .none s) : WE T (tC .non) s ρ Φ := fun _ _ B _ H c Q k => k _ H _ s q Fr.refl c.at_ .non
theorem wp_op {r : R2} (h : WE T ta s ρ fun x s1 => WE T tb s1 ρ fun y s2 => RD r x y fun z => Φ z s2) : WE T (tOp r ta tb) s ρ Φ := fun A0 H0 B σ H c Q k =>
  h A0 H0 B σ H c _ fun v H1 x s1 h1 e1 a1 d1 => h1 A0 H0 B σ H1 (c.step e1 a1) _ fun w H2 y s2 h2 e2 a2 d2 =>
    h2 B H2 v w Q ((c.step e1 a1).step e2 a2).dm (DD.mono (e2.cut c.fb) _ _ d1) d2 fun u H3 z hz e3 d3 =>
      k u H3 z s2 hz ((e1.trans e2).trans (Fr.of e3)) (T.loc s2 H2 H3 (fun a o _ h => e3 a o h) a2) d3
theorem wp_un {r : V → Hp → VK → Prop} (h : WE T ta s ρ fun x s1 => R1 r x fun z => Φ z s1) : WE T (tUn r ta) s ρ Φ := fun A0 H0 B σ H c Q k =>
  h A0 H0 B σ H c _ fun v H1 x s1 h1 e1 a1 d1 => h1 B H1 v Q (c.step e1 a1).dm d1 fun u H3 z hz e3 d3 =>
      k u H3 z s1 hz (e1.trans (Fr.of e3)) (T.loc s1 H1 H3 (fun a o _ h => e3 a o h) a1) d3
theorem wp_call {r : List V → Hp → VK → Prop} {tr : TA} (h : WA T tr s ρ fun xs s1 => RC r xs fun z => Φ z s1) : WE T (tCB r tr) s ρ Φ := fun A0 H0 B σ H c Q k =>
  h A0 H0 B σ H c _ fun v H1 x s1 h1 e1 a1 d1 => h1 B H1 v Q (c.step e1 a1).dm d1 fun u H3 z hz e3 d3 =>
      k u H3 z s1 hz (e1.trans (Fr.of e3)) (T.loc s1 H1 H3 (fun a o _ h => e3 a o h) a1) d3
theorem wa_nil {Ψ : List PyData → T.S → Prop} (q : Ψ [] s) : WA T tNil s ρ Ψ := fun _ _ B _ H c Q k => k _ H _ s q Fr.refl c.at_ .nil
theorem wa_cons {tr : TA} {Ψ : List PyData → T.S → Prop} (h : WE T ta s ρ fun x s1 => WA T tr s1 ρ fun xs s2 => Ψ (x :: xs) s2) : WA T (tCons ta tr) s ρ Ψ := fun A0 H0 B σ H c Q k =>
  h A0 H0 B σ H c _ fun v H1 x s1 h1 e1 a1 d1 => h1 A0 H0 B σ H1 (c.step e1 a1) _ fun w H2 y s2 h2 e2 a2 d2 =>
    k _ H2 _ s2 h2 (e1.trans e2) a2 (.cons (DD.mono (e2.cut c.fb) _ _ d1) d2)
theorem new_cut {B : Addr → Prop} {H : Hp} {p : Addr} {o : HO} (dm : ∀ a, B a → H a ≠ none) (hp : H p = none) : cut B (upd H p o) p = some o := cut_of upd_same fun z => dm p z hp
theorem wp_tup {tr : TA} (h : WA T tr s ρ fun xs s1 => xs.length ≤ 100000 ∧ Φ (.tuple xs) s1) : WE T (tTup tr) s ρ Φ := fun A0 H0 B σ H c Q k =>
  h A0 H0 B σ H c _ fun v H1 x s1 h1 e1 a1 d1 => ⟨Nat.le_trans (by rw [d1.len]; exact h1.1) (by decide), fun p hp =>
    k _ _ _ s1 h1.2 (e1.trans (Fr.of (same_new hp))) (T.loc s1 H1 _ (fun a o _ h => same_new hp a o h) a1) (.tup (new_cut (c.step e1 a1).dm hp) (DDs.mono ((Fr.of (same_new hp)).cut c.fb) _ _ d1))⟩
theorem wp_lst {tr : TA} (h : WA T tr s ρ fun xs s1 => xs.length ≤ 100000 ∧ Φ (.list xs) s1) : WE T (tLst tr) s ρ Φ := fun A0 H0 B σ H c Q k =>
  h A0 H0 B σ H c _ fun v H1 x s1 h1 e1 a1 d1 => ⟨Nat.le_trans (by rw [d1.len]; exact h1.1) (by decide), fun p hp =>
    k _ _ _ s1 h1.2 (e1.trans (Fr.of (same_new hp))) (T.loc s1 H1 _ (fun a o _ h => same_new hp a o h) a1) (.lst (new_cut (c.step e1 a1).dm hp) (DDs.mono ((Fr.of (same_new hp)).cut c.fb) _ _ d1))⟩
theorem wp_if (h : WT T t s ρ fun b s1 => if b = true then WE T ta s1 ρ Φ else WE T tb s1 ρ Φ) : WE T (tIf t ta tb) s ρ Φ := fun A0 H0 B σ H c Q k =>
  h A0 H0 B σ H c _ fun b H1 s1 h1 e1 a1 => by
    cases b with
    | true => exact (show WE T ta s1 ρ Φ from h1) A0 H0 B σ H1 (c.step e1 a1) Q fun v H' x s' f e a => k v H' x s' f (e1.trans e) a
    | false => exact (show WE T tb s1 ρ Φ from h1) A0 H0 B σ H1 (c.step e1 a1) Q fun v H' x s' f e a => k v H' x s' f (e1.trans e) a
variable {Ψ : Bool → T.S → Prop}
theorem wt_test (h : WE T te s ρ fun x s1 => ∃ b, x = .bool b ∧ Ψ b s1) : WT T (tTest te) s ρ Ψ := fun A0 H0 B σ H c Q k =>
  h A0 H0 B σ H c _ fun v H1 x s1 ⟨b, e, q⟩ e1 a1 d1 => by
    subst e
    cases d1
    exact ⟨b, rfl, k b H1 s1 q e1 a1⟩
theorem wt_B (h : WE T te s ρ fun x s1 => ∃ b, x = .bool b ∧ Ψ b s1) : WT T (tB te) s ρ Ψ := fun A0 H0 B σ H c Q k =>
  h A0 H0 B σ H c _ fun v H1 x s1 ⟨b, e, q⟩ e1 a1 d1 => by
    subst e
    cases d1
    exact ⟨b, rfl, k b H1 s1 q e1 a1⟩
theorem wt_and (h : WT T t s ρ fun b s1 => if b = true then WT T u s1 ρ Ψ else Ψ false s1) : WT T (tAnd t u) s ρ Ψ := fun A0 H0 B σ H c Q k =>
  h A0 H0 B σ H c _ fun b H1 s1 h1 e1 a1 => by
    cases b with
    | true => exact (show WT T u s1 ρ Ψ from h1) A0 H0 B σ H1 (c.step e1 a1) Q fun v H' s' f e a => k v H' s' f (e1.trans e) a
    | false => exact k false H1 s1 h1 e1 a1
theorem wt_or (h : WT T t s ρ fun b s1 => if b = true then Ψ true s1 else WT T u s1 ρ Ψ) : WT T (tOr t u) s ρ Ψ := fun A0 H0 B σ H c Q k =>
  h A0 H0 B σ H c _ fun b H1 s1 h1 e1 a1 => by
    cases b with
    | true => exact k true H1 s1 h1 e1 a1
    | false => exact (show WT T u s1 ρ Ψ from h1) A0 H0 B σ H1 (c.step e1 a1) Q fun v H' s' f e a => k v H' s' f (e1.trans e) a
theorem wt_not (h : WT T t s ρ fun b s1 => Ψ (!b) s1) : WT T (tNot t) s ρ Ψ := fun A0 H0 B σ H c Q k =>
  h A0 H0 B σ H c _ fun b H1 s1 h1 e1 a1 => k (!b) H1 s1 h1 e1 a1
theorem wt_yes (q : Ψ true s) : WT T tYes s ρ Ψ := fun A0 H0 B σ H c Q k => k true H s q Fr.refl c.at_
theorem wp_andV (h : WE T ta s ρ fun x s1 => ∃ b, x = .bool b ∧ if b = true then WE T tb s1 ρ Φ else Φ (.bool false) s1) : WE T (tAndV ta tb) s ρ Φ := fun A0 H0 B σ H c Q k =>
  h A0 H0 B σ H c _ fun v H1 x s1 ⟨b, e, q⟩ e1 a1 d1 => by
    subst e
    cases d1
    refine ⟨b, rfl, ?_⟩
    cases b with
    | true => exact (show WE T tb s1 ρ Φ from q) A0 H0 B σ H1 (c.step e1 a1) Q fun v H' x s' f e a => k v H' x s' f (e1.trans e) a
    | false => exact k _ H1 _ s1 q e1 a1 (.bl false)
theorem wp_orV (h : WE T ta s ρ fun x s1 => ∃ b, x = .bool b ∧ if b = true then Φ (.bool true) s1 else WE T tb s1 ρ Φ) : WE T (tOrV ta tb) s ρ Φ := fun A0 H0 B σ H c Q k =>
  h A0 H0 B σ H c _ fun v H1 x s1 ⟨b, e, q⟩ e1 a1 d1 => by
    subst e
    cases d1
    refine ⟨b, rfl, ?_⟩
    cases b with
    | true => exact k _ H1 _ s1 q e1 a1 (.bl true)
    | false => exact (show WE T tb s1 ρ Φ from q) A0 H0 B σ H1 (c.step e1 a1) Q fun v H' x s' f e a => k v H' x s' f (e1.trans e) a
theorem wp_notV (h : WE T ta s ρ fun x s1 => ∃ b, x = .bool b ∧ Φ (.bool (!b)) s1) : WE T (tNotV ta) s ρ Φ := fun A0 H0 B σ H c Q k =>
  h A0 H0 B σ H c _ fun v H1 x s1 ⟨b, e, q⟩ e1 a1 d1 => by
    subst e
    cases d1
    exact ⟨b, rfl, k _ H1 _ s1 q e1 a1 (.bl _)⟩
/-- slices -/
def WO (T : Sto) (to : TO) (s : T.S) (ρ : DEnv) (Φ : Option Int → T.S → Prop) : Prop :=
  ∀ (A0 : Addr → Prop) (H0 : Hp) (B : Addr → Prop) (σ : St) (H : Hp), Cxt T A0 H0 B σ H s ρ → ∀ Q : Option Int → Hp → Prop, (∀ o H' s', Φ o s' → Fr T.F H H' → T.At s' H' → Q o H') → to σ H Q
theorem wo_none {Ξ : Option Int → T.S → Prop} (q : Ξ none s) : WO T tNoPart s ρ Ξ := fun _ _ B _ H c Q k => k _ H s q Fr.refl c.at_
theorem wo_some {Ξ : Option Int → T.S → Prop} (h : WE T te s ρ fun x s1 => ∃ i, x = .int i ∧ Ξ (some i) s1) : WO T (tPart te) s ρ Ξ := fun A0 H0 B σ H c Q k =>
  h A0 H0 B σ H c _ fun v H1 x s1 ⟨b, e, q⟩ e1 a1 d1 => by
    subst e
    cases d1
    exact ⟨b, rfl, k _ H1 s1 q e1 a1⟩
theorem wp_slice {r : V → Option Int → Option Int → Hp → VK → Prop} {tl th : TO} (h : WE T te s ρ fun x s1 => WO T tl s1 ρ fun l s2 => WO T th s2 ρ fun u s3 => RS r x l u fun z => Φ z s3) : WE T (tSl r te tl th) s ρ Φ := fun A0 H0 B σ H c Q k =>
  h A0 H0 B σ H c _ fun v H1 x s1 h1 e1 a1 d1 => h1 A0 H0 B σ H1 (c.step e1 a1) _ fun l H2 s2 h2 e2 a2 => h2 A0 H0 B σ H2 ((c.step e1 a1).step e2 a2) _ fun u H3 s3 h3 e3 a3 =>
    h3 B H3 v Q (((c.step e1 a1).step e2 a2).step e3 a3).dm (DD.mono ((e2.trans e3).cut c.fb) _ _ d1) fun y H4 z hz e4 d4 =>
      k y H4 z s3 hz (((e1.trans e2).trans e3).trans (Fr.of e4)) (T.loc s3 H3 H4 (fun a o _ h => e4 a o h) a3) d4
end
end J

namespace J
open PySem L2

/-! ### slots -/
section
variable {T : Sto} {A0 : Addr → Prop} {H0 : Hp} {B : Addr → Prop} {σ : L2.St} {H H' : Hp} {s s' : T.S} {ρ : DEnv}
theorem join_set {α : Type} {l : List (Option α)} {i j : Nat} {x : Option α} (h : i < l.length) : ((l.set i x)[j]?).join = if i = j then x else (l[j]?).join := by
  rw [List.getElem?_set]
  by_cases e : i = j
  · subst e
    rw [if_pos rfl, if_pos h, if_pos rfl]
    rfl
  · rw [if_neg e, if_neg e]
theorem Cxt.set (c : Cxt T A0 H0 B σ H s ρ) {i : Nat} {v : V} {w : W} (hw : View T H0 B H (some v) w) (no : ∀ xs, w ≠ .own xs) : Cxt T A0 H0 B (σ.set i (some v)) H s (ρ.set i (some w)) := by
  by_cases hi : i < σ.length
  · have hi' : i < ρ.length := by rw [← c.ln]; exact hi
    have own : ∀ (j : Nat) ys, (ρ.set i (some w))[j]? = some (some (.own ys)) → i ≠ j ∧ ρ[j]? = some (some (.own ys)) := fun j ys q => by
      rw [List.getElem?_set] at q
      by_cases e : i = j
      · rw [if_pos e, if_pos hi'] at q
        exact absurd (Option.some.inj (Option.some.inj q)) (no ys)
      · rw [if_neg e] at q
        exact ⟨e, q⟩
    refine ⟨c.fb, c.dm, c.at_, by rw [List.length_set, List.length_set]; exact c.ln, fun j u q => ?_, c.fr, c.ab, c.d0, c.ba, fun j k xs ys p h1 h2 h3 h4 => ?_⟩
    · rw [join_set hi]
      rw [List.getElem?_set] at q
      by_cases e : i = j
      · rw [if_pos e, if_pos hi'] at q
        rw [if_pos e]
        cases q
        exact hw
      · rw [if_neg e] at q
        rw [if_neg e]
        exact c.sl j u q
    · obtain ⟨n1, q1⟩ := own j xs h1
      obtain ⟨n2, q2⟩ := own k ys h2
      rw [List.getElem?_set, if_neg n1] at h4
      rw [List.getElem?_set, if_neg n2]
      exact c.ow j k xs ys p q1 q2 h3 h4
  · rw [List.set_eq_of_length_le (by omega), List.set_eq_of_length_le (by rw [← c.ln]; omega)]
    exact c
theorem Cxt.setD (c : Cxt T A0 H0 B σ H s ρ) {i : Nat} {v : V} {x : PyData} (hw : DD (cut B H) v x) : Cxt T A0 H0 B (σ.set i (some v)) H s (ρ.set i (some (.d x))) :=
  c.set ⟨v, rfl, hw⟩ fun _ z => nomatch z
theorem join_some {α : Type} {o : Option (Option α)} {v : α} (h : o.join = some v) : o = some (some v) := by
  cases o with
  | none => cases h
  | some o => exact congrArg some h

/-! ### what a list of one's own becomes -/
def frzW : Option W → Option W
  | some (.own xs) => some (.d (.list xs))
  | w => w
def frz (ρ : DEnv) : DEnv := ρ.map frzW
theorem Cxt.frz (c : Cxt T A0 H0 B σ H s ρ) : Cxt T A0 H0 (fun a => A0 a ∨ T.F a) σ H s (frz ρ) := by
  have le : ∀ a, (A0 a ∨ T.F a) → B a := fun a z => z.elim (c.ab a) (c.fb a)
  refine ⟨fun a z => .inr z, fun a z => c.dm a (le a z), c.at_, by unfold J.frz; rw [List.length_map]; exact c.ln, fun j u q => ?_, c.fr, fun a z => .inl z, c.d0, fun a z => z.elim .inl fun z => .inr (.inl z), fun j k xs ys p h1 _ => ?_⟩
  · unfold J.frz at q
    rw [List.getElem?_map] at q
    cases e : ρ[j]? with
    | none => rw [e] at q; cases q
    | some w =>
      rw [e] at q
      cases w with
      | none => cases q
      | some w =>
        have h := c.sl j w e
        cases w with
        | d x =>
          cases q
          obtain ⟨v, h1, h2⟩ := h
          exact ⟨v, h1, DD.mono (cut_mono le) _ _ h2⟩
        | v x =>
          cases q
          exact h
        | own xs =>
          cases q
          obtain ⟨p, vs, h1, h2, h3, h5, h6, h7⟩ := h
          exact ⟨.ref p, h1, .lst (cut_of h6 fun z => z.elim (fun z => c.d0 p z h5) h3) (DDs.mono (cut_mono le) _ _ h7)⟩
  · unfold J.frz at h1
    rw [List.getElem?_map] at h1
    cases e : ρ[j]? with
    | none => rw [e] at h1; cases h1
    | some w =>
      rw [e] at h1
      cases w with
      | none => cases h1
      | some w => cases w <;> cases h1

/-! ### the heap at hand as the heap that is kept -/
noncomputable def baseH (A0 B : Addr → Prop) (H : Hp) : Hp := cut (fun a => B a ∧ ¬ A0 a) H
theorem Cxt.base (c : Cxt T A0 H0 B σ H s ρ) : Cxt T A0 (baseH A0 B H) B σ H s ρ := by
  refine ⟨c.fb, c.dm, c.at_, c.ln, fun i w q => ?_, fun a o q _ => (cut_get q).1, c.ab, fun a z e => ?_, fun a z => ?_, c.ow⟩
  · have h := c.sl i w q
    cases w with
    | d x => exact h
    | v x => exact h
    | own xs =>
      obtain ⟨p, vs, h1, h2, h3, h5, h6, h7⟩ := h
      refine ⟨p, vs, h1, h2, h3, ?_, h6, h7⟩
      unfold baseH cut
      rw [if_pos ⟨h2, fun z => c.d0 p z h5⟩]
  · cases q : H a with
    | none => exact c.dm a (c.ab a z) q
    | some o =>
      unfold baseH at e
      rw [cut_of q fun y => y.2 z] at e
      cases e
  · by_cases y : A0 a
    · exact .inl y
    · refine .inr (.inr ?_)
      unfold baseH cut
      rw [if_pos ⟨z, y⟩]
theorem Cxt.base_fr (c : Cxt T A0 H0 B σ H s ρ) : Fr T.F H0 (baseH A0 B H) := fun a o q n => cut_of (c.fr a o q n) fun y => by
  rcases c.ba a y.1 with z | z | z
  · exact y.2 z
  · exact n z
  · rw [z] at q; cases q
/-- what was pure data there is pure data later -/
theorem Cxt.later {B' : Addr → Prop} {σ' : L2.St} {s' : T.S} {ρ' : DEnv} (c : Cxt T A0 H0 B σ H s ρ) (c' : Cxt T A0 (baseH A0 B H) B' σ' H' s' ρ') : Same (cut B H) (cut B' H') := fun a o q => by
  obtain ⟨q1, q2⟩ := cut_get q
  have e : baseH A0 B H a = some o := cut_of q1 fun z => q2 z.1
  refine cut_of (c'.fr a o e fun z => q2 (c.fb a z)) fun z => ?_
  rcases c'.ba a z with y | y | y
  · exact q2 (c.ab a y)
  · exact q2 (c.fb a y)
  · rw [e] at y; cases y
/-- back to the elder one -/
theorem Cxt.back {H1 : Hp} (c : Cxt T A0 H1 B σ H s ρ) (e : Fr T.F H0 H1) (d0 : ∀ a, A0 a → H0 a ≠ none) : Cxt T A0 H0 B σ H s ρ := by
  have no : ∀ p, ¬ T.F p → H1 p = none → H0 p = none := fun p h3 h5 => by
    cases q : H0 p with
    | none => rfl
    | some o => rw [e p o q h3] at h5; cases h5
  refine ⟨c.fb, c.dm, c.at_, c.ln, fun i w q => ?_, e.trans c.fr, c.ab, d0, fun a z => ?_, c.ow⟩
  · have h := c.sl i w q
    cases w with
    | d x => exact h
    | v x => exact h
    | own xs =>
      obtain ⟨p, vs, h1, h2, h3, h5, h6, h7⟩ := h
      exact ⟨p, vs, h1, h2, h3, no p h3 h5, h6, h7⟩
  · by_cases f : T.F a
    · exact .inr (.inl f)
    · rcases c.ba a z with y | y | y
      · exact .inl y
      · exact absurd y f
      · exact .inr (.inr (no a f y))
end

/-! ### statements -/
section
variable {T : Sto} {s : T.S} {ρ : DEnv} {R : PyData → T.S → Prop} {N : DEnv → T.S → Prop} {te : TE} {t u : TS} {tt : TT}
theorem WS.mono {N' : DEnv → T.S → Prop} (h : WS T t s ρ R N) (k : ∀ ρ s, N ρ s → N' ρ s) : WS T t s ρ R N' := fun A0 H0 B σ H c D r n => h A0 H0 B σ H c D r fun B' σ' H' s' ρ' z => n B' σ' H' s' ρ' (k ρ' s' z)
theorem ws_next (q : N ρ s) : WS T tNext s ρ R N := fun A0 H0 B σ H c D r n => n B σ H s ρ q c
theorem ws_seq (h : WS T t s ρ R fun ρ1 s1 => WS T u s1 ρ1 R N) : WS T (tSeq t u) s ρ R N := fun A0 H0 B σ H c D r n =>
  h A0 H0 B σ H c { D with nx := u D } r fun B' σ' H' s' ρ' h' c' => h' A0 H0 B' σ' H' c' D r n
theorem ws_if (h : WT T tt s ρ fun b s1 => if b = true then WS T t s1 ρ R N else WS T u s1 ρ R N) : WS T (tIfS tt t u) s ρ R N := fun A0 H0 B σ H c D r n =>
  h A0 H0 B σ H c _ fun b H1 s1 h1 e1 a1 => by
    cases b with
    | true => exact (show WS T t s1 ρ R N from h1) A0 H0 B σ H1 (c.step e1 a1) D r n
    | false => exact (show WS T u s1 ρ R N from h1) A0 H0 B σ H1 (c.step e1 a1) D r n
theorem ws_ret (h : WE T te s (frz ρ) R) : WS T (tRet te) s ρ R N := fun A0 H0 B σ H c D r n =>
  h A0 H0 _ σ H c.frz _ fun v H' x s' f e a d => r v H' x s' f (c.fr.trans e) a (DD.mono (cut_mono fun _ z => .inl z) _ _ d)
theorem ws_retN (q : R .none s) : WS T tRetN s ρ R N := fun A0 H0 B σ H c D r n => r .non H _ s q c.fr c.at_ .non
theorem ws_drop (h : WE T te s ρ fun _ s1 => N ρ s1) : WS T (tDrop te) s ρ R N := fun A0 H0 B σ H c D r n =>
  h A0 H0 B σ H c _ fun v H' x s' f e a _ => n B σ H' s' ρ f (c.step e a)
/-- a target -/
def WG (T : Sto) (g : TG) (x : PyData) (s : T.S) (ρ : DEnv) (N : DEnv → T.S → Prop) : Prop :=
  ∀ (A0 : Addr → Prop) (H0 : Hp) (B : Addr → Prop) (σ : L2.St) (H : Hp), Cxt T A0 H0 B σ H s ρ → ∀ v, DD (cut B H) v x → ∀ Q : L2.St → Hp → Prop, (∀ σ' ρ', N ρ' s → Cxt T A0 H0 B σ' H s ρ' → Q σ' H) → g v σ H Q
theorem wg_name {i : Nat} {x : PyData} (q : N (ρ.set i (some (.d x))) s) : WG T (gName i) x s ρ N := fun A0 H0 B σ H c v d Q k => k _ _ q (c.setD d)
theorem wg_tup2 {K : PySem.W.Frag} {i j : Nat} {x y : PyData} (q : N ((ρ.set i (some (.d x))).set j (some (.d y))) s) : WG T (gTup K 2 (gCons (gName i) (gCons (gName j) gNil))) (.tuple [x, y]) s ρ N := fun A0 H0 B σ H c v d Q k => by
  cases d with
  | tup ha hs =>
    cases hs with
    | cons d1 hs =>
      cases hs with
      | cons d2 hs =>
        cases hs
        exact ⟨_, _, rfl, SqT.of (cut_get ha).1, rfl, _, _, rfl, _, _, rfl, rfl, k _ _ q ((c.setD d1).setD d2)⟩
theorem wg_tup3 {K : PySem.W.Frag} {i j l : Nat} {x y z : PyData} (q : N (((ρ.set i (some (.d x))).set j (some (.d y))).set l (some (.d z))) s) :
    WG T (gTup K 3 (gCons (gName i) (gCons (gName j) (gCons (gName l) gNil)))) (.tuple [x, y, z]) s ρ N := fun A0 H0 B σ H c v d Q k => by
  cases d with
  | tup ha hs =>
    cases hs with
    | cons d1 hs =>
      cases hs with
      | cons d2 hs =>
        cases hs with
        | cons d3 hs =>
          cases hs
          exact ⟨_, _, rfl, SqT.of (cut_get ha).1, rfl, _, _, rfl, _, _, rfl, _, _, rfl, rfl, k _ _ q (((c.setD d1).setD d2).setD d3)⟩
theorem wg_tup4 {K : PySem.W.Frag} {i j l m : Nat} {x y z a : PyData} (q : N ((((ρ.set i (some (.d x))).set j (some (.d y))).set l (some (.d z))).set m (some (.d a))) s) :
    WG T (gTup K 4 (gCons (gName i) (gCons (gName j) (gCons (gName l) (gCons (gName m) gNil))))) (.tuple [x, y, z, a]) s ρ N := fun A0 H0 B σ H c v d Q k => by
  cases d with
  | tup ha hs =>
    cases hs with
    | cons d1 hs =>
      cases hs with
      | cons d2 hs =>
        cases hs with
        | cons d3 hs =>
          cases hs with
          | cons d4 hs =>
            cases hs
            exact ⟨_, _, rfl, SqT.of (cut_get ha).1, rfl, _, _, rfl, _, _, rfl, _, _, rfl, _, _, rfl, rfl, k _ _ q ((((c.setD d1).setD d2).setD d3).setD d4)⟩
theorem ws_asg {g : TG} (h : WE T te s ρ fun x s1 => WG T g x s1 ρ N) : WS T (tAsg te g) s ρ R N := fun A0 H0 B σ H c D r n =>
  h A0 H0 B σ H c _ fun v H' x s' f e a d => f A0 H0 B σ H' (c.step e a) v d _ fun σ' ρ' z c' => n B σ' H' s' ρ' z c'
/-- x = [..], a list of one's own -/
theorem ws_own {ta : TA} {i : Nat} (h : WA T ta s ρ fun xs s1 => xs.length ≤ 100000 ∧ i < ρ.length ∧ N (ρ.set i (some (.own xs))) s1) : WS T (tAsg (tLst ta) (gName i)) s ρ R N := fun A0 H0 B σ H c D r n =>
  h A0 H0 B σ H c _ fun vs H1 xs s1 ⟨hl, hi, f⟩ e a d => ⟨Nat.le_trans (by rw [d.len]; exact hl) (by decide), fun p hp => by
    have c1 := c.step e a
    have sm : Same H1 (upd H1 p (.lst vs)) := same_new hp
    have nb : ¬ B p := fun z => c1.dm p z hp
    have nf : ¬ T.F p := fun z => nb (c1.fb p z)
    have n0 : H0 p = none := by
      cases q : H0 p with
      | none => rfl
      | some o => rw [c1.fr p o q nf] at hp; cases hp
    have hi2 : i < σ.length := by rw [c.ln]; exact hi
    have nown : ∀ (j : Nat), σ[j]? = some (some (.ref p)) → ∀ ys, ρ[j]? ≠ some (some (.own ys)) := fun j hj ys q => by
      obtain ⟨p', vs', h1, h2, _⟩ := c1.sl j _ q
      have z := join_some h1
      rw [hj] at z
      cases z
      exact nb h2
    have sc : Same (cut B H1) (cut (fun a => B a ∨ a = p) (upd H1 p (.lst vs))) := fun b o q => by
      obtain ⟨q1, q2⟩ := cut_get q
      exact cut_of (sm b o q1) fun z => z.elim q2 fun z => ne_of_none q1 hp z
    refine n (fun a => B a ∨ a = p) _ _ s1 _ f ⟨fun b z => .inl (c.fb b z), fun b z => ?_, T.loc s1 H1 _ (fun b o _ q => sm b o q) a, by rw [List.length_set, List.length_set]; exact c.ln, fun j w q => ?_, c1.fr.trans (Fr.of sm), fun b z => .inl (c.ab b z), c.d0, fun b z => z.elim (c.ba b) fun z => .inr (.inr (by rw [z]; exact n0)), fun j k ys zs q h1 h2 h3 h4 h5 => ?_⟩
    · rcases z with z | z
      · cases q : H1 b with
        | none => exact absurd q (c1.dm b z)
        | some o => rw [sm b o q]; exact fun z => nomatch z
      · rw [z, upd_same]
        exact fun z => nomatch z
    · rw [join_set hi2]
      rw [List.getElem?_set] at q
      by_cases e' : i = j
      · rw [if_pos e', if_pos hi] at q
        rw [if_pos e']
        cases q
        exact ⟨p, vs, rfl, .inr rfl, nf, n0, upd_same, DDs.mono sc _ _ d⟩
      · rw [if_neg e'] at q
        rw [if_neg e']
        have z := c1.sl j w q
        cases w with
        | d x => obtain ⟨v, z1, z2⟩ := z; exact ⟨v, z1, DD.mono sc _ _ z2⟩
        | v x => exact z
        | own xs => obtain ⟨p', vs', z1, z2, z3, z5, z6, z7⟩ := z; exact ⟨p', vs', z1, .inl z2, z3, z5, sm _ _ z6, DDs.mono sc _ _ z7⟩
    · rw [List.getElem?_set] at h1 h2 h4 h5
      by_cases e1 : i = j
      · rw [if_pos e1, if_pos hi2] at h4
        cases h4
        have e2 : ¬ i = k := fun z => h3 (e1.symm.trans z)
        rw [if_neg e2] at h2 h5
        exact nown k h5 zs h2
      · rw [if_neg e1] at h1 h4
        by_cases e2 : i = k
        · rw [if_pos e2, if_pos hi2] at h5
          cases h5
          exact nown j h4 ys h1
        · rw [if_neg e2] at h2 h5
          exact c.ow j k ys zs q h1 h2 h3 h4 h5⟩
/-- x.append(e), x a list of one's own -/
theorem ws_app {K : PySem.W.Frag} {i : Nat} {xs : List PyData} (ho : ρ[i]? = some (some (.own xs))) (h : WE T te s ρ fun x s1 => xs.length < 100000 ∧ N (ρ.set i (some (.own (xs ++ [x])))) s1) :
    WS T (tDrop (tBM K "list" rAppend (tVar i) (tCons te tNil))) s ρ R N := fun A0 H0 B σ H c D r n => by
  obtain ⟨p, vs, h1, h2, h3, h5, h6, h7⟩ := c.sl i _ ho
  have hi := join_some h1
  refine ⟨_, hi, Or.inl ⟨rfl, _, SqL.of h6⟩, h A0 H0 B σ H c _ fun v H1 x s1 ⟨hl, f⟩ e a d => ?_⟩
  have c1 := c.step e a
  have hp : H1 p = some (.lst vs) := e _ _ h6 h3
  refine ⟨p, vs, v, rfl, rfl, hp, Nat.lt_of_lt_of_le (by rw [h7.len]; exact hl) (by decide), ?_⟩
  have fr : Fr (fun a => a = p) H1 (upd H1 p (.lst (vs ++ [v]))) := fun b o q z => by rw [upd_ne z]; exact q
  have sc : Same (cut B H1) (cut B (upd H1 p (.lst (vs ++ [v])))) := fr.cut fun b z => by rw [z]; exact h2
  have hil : i < ρ.length := (List.getElem?_eq_some_iff.mp ho).1
  have sset : σ.set i (some (.ref p)) = σ := by
    apply List.ext_getElem?
    intro j
    rw [List.getElem?_set]
    by_cases e' : i = j
    · subst e'
      rw [if_pos rfl, if_pos (by rw [c.ln]; exact hil), hi]
    · rw [if_neg e']
  have iso : ∀ (j : Nat) ys, (ρ.set i (some (.own (xs ++ [x]))))[j]? = some (some (.own ys)) → ∃ zs, ρ[j]? = some (some (.own zs)) := fun j ys q => by
    rw [List.getElem?_set] at q
    by_cases e' : i = j
    · subst e'; exact ⟨_, ho⟩
    · rw [if_neg e'] at q; exact ⟨_, q⟩
  refine n B σ _ s1 _ f ⟨c.fb, fun b z => ?_, T.loc s1 H1 _ (fun b o hb q => ?_) a, by rw [List.length_set]; exact c.ln, fun j w q => ?_, fun b o q z => ?_, c.ab, c.d0, c.ba, fun j k ys zs q q1 q2 q3 q4 => ?_⟩
  · by_cases e' : b = p
    · rw [e', upd_same]; exact fun z => nomatch z
    · rw [upd_ne e']; exact c1.dm b z
  · rw [upd_ne fun z => h3 (by rw [← z]; exact hb)]; exact q
  · rw [List.getElem?_set] at q
    by_cases e' : i = j
    · subst e'
      rw [if_pos rfl, if_pos hil] at q
      cases q
      exact ⟨p, _, h1, h2, h3, h5, upd_same, (DDs.mono (sc) _ _ (DDs.mono (e.cut c.fb) _ _ h7)).app (DDs.one (DD.mono sc _ _ d))⟩
    · rw [if_neg e'] at q
      have z := c1.sl j w q
      cases w with
      | d x => obtain ⟨v, z1, z2⟩ := z; exact ⟨v, z1, DD.mono sc _ _ z2⟩
      | v x => exact z
      | own ys =>
        obtain ⟨p', vs', z1, z2, z3, z5, z6, z7⟩ := z
        have np : p' ≠ p := fun zz => by
          subst zz
          exact c.ow i j xs ys p' ho q e' hi (join_some z1)
        exact ⟨p', vs', z1, z2, z3, z5, by rw [upd_ne np]; exact z6, DDs.mono sc _ _ z7⟩
  · rw [upd_ne fun zz => by rw [zz, h5] at q; cases q]
    exact c1.fr b o q z
  · obtain ⟨ys', y1⟩ := iso j ys q1
    obtain ⟨zs', y2⟩ := iso k zs q2
    exact c.ow j k ys' zs' q y1 y2 q3 q4
theorem ws_weak {ρ' : DEnv} (h : WS T t s ρ' R N) (le : ρ'.length = ρ.length ∧ ∀ (i : Nat) w, ρ'[i]? = some (some w) → ρ[i]? = some (some w)) : WS T t s ρ R N := fun A0 H0 B σ H c D r n =>
  h A0 H0 B σ H ⟨c.fb, c.dm, c.at_, c.ln.trans le.1.symm, fun i w q => c.sl i w (le.2 i w q), c.fr, c.ab, c.d0, c.ba, fun i j xs ys p h1 h2 => c.ow i j xs ys p (le.2 _ _ h1) (le.2 _ _ h2)⟩ D r n
theorem ws_while {W' : Nat → DEnv → T.S → Prop} {m0 : Nat} (h0 : W' m0 ρ s) (hs : ∀ m ρ s, W' m ρ s → WT T tt s ρ fun b s1 => if b = true then WS T t s1 ρ R (fun ρ' s' => ∃ m', m' < m ∧ W' m' ρ' s') else N ρ s1) :
    WS T (tWhile tt t) s ρ R N := fun A0 H0 B σ H c D r n => by
  refine ⟨fun m σ H => ∃ B s ρ, W' m ρ s ∧ Cxt T A0 H0 B σ H s ρ, ⟨m0, B, s, ρ, h0, c⟩, ?_⟩
  rintro m σ1 H1 ⟨B1, s1, ρ1, w1, c1⟩
  refine hs m ρ1 s1 w1 A0 H0 B1 σ1 H1 c1 _ fun b H2 s2 h2 e2 a2 => ?_
  cases b with
  | true =>
    refine ⟨fun σ' H' => ∃ m', m' < m ∧ ∃ B s ρ, W' m' ρ s ∧ Cxt T A0 H0 B σ' H' s ρ, fun σ' H' ⟨m', hm, q⟩ => ⟨m', hm, q⟩, ?_⟩
    exact (show WS T t s2 ρ1 R _ from h2) A0 H0 B1 σ1 H2 (c1.step e2 a2) _ r fun B' σ' H' s' ρ' ⟨m', hm, q⟩ c' => ⟨m', hm, B', s', ρ', q, c'⟩
  | false => exact n B1 σ1 H2 s2 ρ1 h2 (c1.step e2 a2)
end
/-- what a for, a comprehension walks: a list or a tuple -/
def iSeq (K : PySem.W.Frag) (tl : TE) : TI := fun σ H R => iList K tl σ H R ∨ iTup K tl σ H R
theorem pi_seq {X : Cx} {tg l : Expr} {tl : TE} (hl : PE X l tl) : PI X tg l (iSeq X.K tl) := by
  refine ⟨fun pins s σ H R I h => ?_⟩
  rcases h with h | h
  · exact (pi_list hl).run pins s σ H R I h
  · exact (pi_tup hl).run pins s σ H R I h
end J

namespace J
open PySem L2
section
variable {T : Sto} {s : T.S} {ρ : DEnv} {R : PyData → T.S → Prop} {N : DEnv → T.S → Prop} {te tl : TE} {tb : TS} {tt : TT} {g : TG} {K : PySem.W.Frag}

/-! ### for -/
theorem ws_for_list (h : WE T tl s ρ fun x s1 => ∃ ds, x = .list ds ∧ ∃ I : Nat → DEnv → T.S → Prop, I 0 ρ s1 ∧
      (∀ (i : Nat) d ρ' s', ds[i]? = some d → I i ρ' s' → WG T g d s' ρ' fun ρ2 s2 => WS T tb s2 ρ2 R (I (i + 1))) ∧ ∀ ρ' s', I ds.length ρ' s' → N ρ' s') :
    WS T (tFor (iSeq K tl) g tb) s ρ R N := fun A0 H0 B σ H c D r n => .inl <|
  h A0 H0 B σ H c _ fun v H1 x s1 ⟨ds, ex, I, h0, hs, hd⟩ e a d => by
    subst ex
    cases d with
    | @lst p xs _ ha hx =>
      obtain ⟨ha1, ha2⟩ := cut_get ha
      have c1 := c.step e a
      have nf : ¬ T.F p := fun z => ha2 (c.fb p z)
      have hp0 : baseH A0 B H1 p = some (.lst xs) := cut_of ha1 fun z => ha2 z.1
      refine ⟨p, rfl, ⟨xs, SqL.of ha1⟩, for_list (K := K) (a := p) (xs := xs) (fun i σ' H' => ∃ B' s' ρ', I i ρ' s' ∧ Cxt T A0 (baseH A0 B H1) B' σ' H' s' ρ') ⟨B, s1, ρ, h0, c1.base⟩ (fun i σ' H' _ ⟨B', s', ρ', _, c'⟩ => SqL.of (c'.fr p _ hp0 nf)) ?_ ?_⟩
      · rintro i y σ' H' hi ⟨B', s', ρ', hI, c'⟩
        obtain ⟨d, e1, e2⟩ := hx.get' hi
        refine hs i d ρ' s' e1 hI A0 _ B' σ' H' c' y (DD.mono (c1.later c') _ _ e2) _ fun σ2 ρ2 hw c2 => ?_
        exact hw A0 _ B' σ2 H' c2 _ (fun v H' x s' f e a d => r v H' x s' f (c1.base_fr.trans e) a d) fun B' σ' H' s' ρ' hI c' => ⟨B', s', ρ', hI, c'⟩
      · rintro σ' H' ⟨B', s', ρ', hI, c'⟩
        rw [hx.len] at hI
        exact n B' σ' H' s' ρ' (hd ρ' s' hI) (c'.back c1.base_fr c.d0)
theorem ws_for_tup (h : WE T tl s ρ fun x s1 => ∃ ds, x = .tuple ds ∧ ∃ I : Nat → DEnv → T.S → Prop, I 0 ρ s1 ∧
      (∀ (i : Nat) d ρ' s', ds[i]? = some d → I i ρ' s' → WG T g d s' ρ' fun ρ2 s2 => WS T tb s2 ρ2 R (I (i + 1))) ∧ ∀ ρ' s', I ds.length ρ' s' → N ρ' s') :
    WS T (tFor (iSeq K tl) g tb) s ρ R N := fun A0 H0 B σ H c D r n => .inr <|
  h A0 H0 B σ H c _ fun v H1 x s1 ⟨ds, ex, I, h0, hs, hd⟩ e a d => by
    subst ex
    cases d with
    | @tup p xs _ ha hx =>
      obtain ⟨ha1, ha2⟩ := cut_get ha
      have c1 := c.step e a
      have nf : ¬ T.F p := fun z => ha2 (c.fb p z)
      have hp0 : baseH A0 B H1 p = some (.tup xs) := cut_of ha1 fun z => ha2 z.1
      refine ⟨p, rfl, ⟨xs, SqT.of ha1⟩, for_tup (K := K) (a := p) (xs := xs) (fun i σ' H' => ∃ B' s' ρ', I i ρ' s' ∧ Cxt T A0 (baseH A0 B H1) B' σ' H' s' ρ') ⟨B, s1, ρ, h0, c1.base⟩ (fun i σ' H' _ ⟨B', s', ρ', _, c'⟩ => SqT.of (c'.fr p _ hp0 nf)) ?_ ?_⟩
      · rintro i y σ' H' hi ⟨B', s', ρ', hI, c'⟩
        obtain ⟨d, e1, e2⟩ := hx.get' hi
        refine hs i d ρ' s' e1 hI A0 _ B' σ' H' c' y (DD.mono (c1.later c') _ _ e2) _ fun σ2 ρ2 hw c2 => ?_
        exact hw A0 _ B' σ2 H' c2 _ (fun v H' x s' f e a d => r v H' x s' f (c1.base_fr.trans e) a d) fun B' σ' H' s' ρ' hI c' => ⟨B', s', ρ', hI, c'⟩
      · rintro σ' H' ⟨B', s', ρ', hI, c'⟩
        rw [hx.len] at hI
        exact n B' σ' H' s' ρ' (hd ρ' s' hI) (c'.back c1.base_fr c.d0)
theorem ws_for_range {ta : TA} (h : WA T ta s ρ fun xs s1 => ∃ n : Int, xs = [.int n] ∧ n ≤ 1000000 ∧ -1000000 ≤ n ∧ ∃ I : Nat → DEnv → T.S → Prop, I 0 ρ s1 ∧
      (∀ (i : Nat) ρ' s', (i : Int) < n → I i ρ' s' → WG T g (.int (i : Int)) s' ρ' fun ρ2 s2 => WS T tb s2 ρ2 R (I (i + 1))) ∧ ∀ ρ' s', I n.toNat ρ' s' → N ρ' s') :
    WS T (tFor (iRng1 ta) g tb) s ρ R N := fun A0 H0 B σ H c D r n =>
  h A0 H0 B σ H c _ fun vs H1 xs s1 ⟨m, ex, hm, hm2, I, h0, hs, hd⟩ e a d => by
    subst ex
    cases d with
    | cons d1 d2 =>
      cases d1
      cases d2
      have c1 := c.step e a
      refine ⟨m, rfl, by omega, by omega, for_range (lo := 0) (n := m.toNat) (fun i σ' H' => ∃ B' s' ρ', I i ρ' s' ∧ Cxt T A0 H0 B' σ' H' s' ρ') ⟨B, s1, ρ, h0, c1⟩ ?_ ?_⟩
      · rintro i σ' H' hi ⟨B', s', ρ', hI, c'⟩
        have e0 : (0 : Int) + (i : Int) = (i : Int) := Int.zero_add _
        rw [e0]
        refine hs i ρ' s' (by omega) hI A0 _ B' σ' H' c' _ (.int _) _ fun σ2 ρ2 hw c2 => ?_
        exact hw A0 _ B' σ2 H' c2 _ r fun B' σ' H' s' ρ' hI c' => ⟨B', s', ρ', hI, c'⟩
      · rintro σ' H' ⟨B', s', ρ', hI, c'⟩
        exact n B' σ' H' s' ρ' (hd ρ' s' hI) c'

/-! ### comprehensions -/
def wipeE (ρ : DEnv) : List Nat → DEnv
  | [] => ρ
  | v :: vs => (wipeE ρ vs).set v none
theorem wipe_in {σ : L2.St} {j : Nat} : ∀ {vs : List Nat}, j ∈ vs → (wipe σ vs)[j]? = if j < σ.length then some none else none
  | v :: vs, h => by
    unfold wipe
    rw [List.getElem?_set, wipe_length]
    by_cases e : v = j
    · rw [if_pos e, e]
    · rw [if_neg e]
      exact wipe_in ((List.mem_cons.mp h).resolve_left fun z => e z.symm)
theorem wipe_set {σ : L2.St} {vs : List Nat} {i : Nat} {x : Option V} (h : i ∈ vs) : wipe ((wipe σ vs).set i x) vs = wipe σ vs := by
  apply List.ext_getElem?
  intro j
  by_cases e : j ∈ vs
  · rw [wipe_in e, wipe_in e, List.length_set, wipe_length]
  · rw [wipe_out e, List.getElem?_set, if_neg fun z => e (by rw [← z]; exact h)]
section
variable {A0 : Addr → Prop} {H0 : Hp} {B : Addr → Prop} {σ : L2.St} {H H1 : Hp}
theorem Cxt.unset (c : Cxt T A0 H0 B σ H s ρ) (i : Nat) : Cxt T A0 H0 B (σ.set i none) H s (ρ.set i none) := by
  have old : ∀ (j : Nat) (w : W), (ρ.set i none)[j]? = some (some w) → i ≠ j ∧ ρ[j]? = some (some w) := fun j w q => by
    rw [List.getElem?_set] at q
    by_cases e : i = j
    · rw [if_pos e] at q
      by_cases hl : i < ρ.length
      · rw [if_pos hl] at q; cases q
      · rw [if_neg hl] at q; cases q
    · rw [if_neg e] at q
      exact ⟨e, q⟩
  refine ⟨c.fb, c.dm, c.at_, by rw [List.length_set, List.length_set]; exact c.ln, fun j w q => ?_, c.fr, c.ab, c.d0, c.ba, fun j k xs ys p h1 h2 h3 h4 => ?_⟩
  · obtain ⟨e, q'⟩ := old j w q
    rw [List.getElem?_set, if_neg e]
    exact c.sl j w q'
  · obtain ⟨e1, q1⟩ := old j _ h1
    obtain ⟨e2, q2⟩ := old k _ h2
    rw [List.getElem?_set, if_neg e1] at h4
    rw [List.getElem?_set, if_neg e2]
    exact c.ow j k xs ys p q1 q2 h3 h4
theorem Cxt.wipe (c : Cxt T A0 H0 B σ H s ρ) : ∀ vs : List Nat, Cxt T A0 H0 B (L2.wipe σ vs) H s (wipeE ρ vs)
  | [] => c
  | v :: vs => (Cxt.wipe c vs).unset v
/-- within a comprehension, its list at D -/
theorem Cxt.comp {s1 : T.S} {L : Addr} {vs : List V} (c : Cxt T A0 H0 B σ H1 s1 ρ) (hD : H1 L = none) (e : ∀ a o, H1 a = some o → ¬ T.F a → a ≠ L → H a = some o) (hL : H L = some (.lst vs)) (a : T.At s H) :
    Cxt T A0 H0 (fun a => B a ∨ a = L) σ H s ρ := by
  have nb : ¬ B L := fun z => c.dm L z hD
  have nf : ¬ T.F L := fun z => nb (c.fb L z)
  have keep : ∀ a o, H1 a = some o → ¬ T.F a → H a = some o := fun a o q n => e a o q n fun z => by rw [z, hD] at q; cases q
  have n0 : H0 L = none := by
    cases q : H0 L with
    | none => rfl
    | some o => rw [c.fr L o q nf] at hD; cases hD
  have sc : Same (cut B H1) (cut (fun a => B a ∨ a = L) H) := fun b o q => by
    obtain ⟨q1, q2⟩ := cut_get q
    exact cut_of (keep b o q1 fun z => q2 (c.fb b z)) fun z => z.elim q2 fun z => by rw [z, hD] at q1; cases q1
  refine ⟨fun b z => .inl (c.fb b z), fun b z => ?_, a, c.ln, fun i w q => ?_, c.fr.trans keep, fun b z => .inl (c.ab b z), c.d0, fun b z => z.elim (c.ba b) fun z => .inr (.inr (by rw [z]; exact n0)), c.ow⟩
  · rcases z with z | z
    · by_cases f : T.F b
      · exact T.dom _ _ _ a f
      · cases q : H1 b with
        | none => exact absurd q (c.dm b z)
        | some o => rw [keep b o q f]; exact fun z => nomatch z
    · rw [z, hL]; exact fun z => nomatch z
  · have z := c.sl i w q
    cases w with
    | d x => obtain ⟨v, z1, z2⟩ := z; exact ⟨v, z1, DD.mono sc _ _ z2⟩
    | v x => exact z
    | own xs => obtain ⟨p, us, z1, z2, z3, z5, z6, z7⟩ := z; exact ⟨p, us, z1, .inl z2, z3, z5, keep p _ z6 z3, DDs.mono sc _ _ z7⟩
end
/-- one turn of a comprehension -/
def LcT (T : Sto) (g : TG) (tt : TT) (te : TE) (vs : List Nat) (ρ : DEnv) (d : PyData) (acc : List PyData) (s : T.S) (I : List PyData → T.S → Prop) : Prop :=
  WG T g d s (wipeE ρ vs) fun ρ2 s2 => WT T tt s2 ρ2 fun b s3 => if b = true then WE T te s3 ρ2 fun y s4 => acc.length < 100000 ∧ I (acc ++ [y]) s4 else I acc s3
/-- what a comprehension's targets store: own slots alone -/
structure GIn (g : TG) (vs : List Nat) : Prop where
  ok : ∀ (σ : L2.St) (v : V) (H : Hp) (Q : L2.St → Hp → Prop), g v (L2.wipe σ vs) H Q → g v (L2.wipe σ vs) H fun σ' H' => L2.wipe σ' vs = L2.wipe σ vs ∧ Q σ' H'
theorem gin_name {i : Nat} {vs : List Nat} (h : i ∈ vs) : GIn (gName i) vs := ⟨fun σ v H Q q => ⟨wipe_set h, q⟩⟩
theorem gin_tup2 {K : PySem.W.Frag} {n i j : Nat} {vs : List Nat} (h : i ∈ vs) (h' : j ∈ vs) : GIn (gTup K n (gCons (gName i) (gCons (gName j) gNil))) vs := ⟨fun σ v H Q q => by
  obtain ⟨a, xs, e, ht, hl, x, r, e1, y, r', e2, e3, q⟩ := q
  refine ⟨a, xs, e, ht, hl, x, r, e1, y, r', e2, e3, ?_, q⟩
  apply List.ext_getElem?
  intro k
  by_cases ek : k ∈ vs
  · rw [wipe_in ek, wipe_in ek, List.length_set, List.length_set, wipe_length]
  · rw [wipe_out ek, List.getElem?_set, if_neg (fun z => ek (by rw [← z]; exact h')), List.getElem?_set, if_neg (fun z => ek (by rw [← z]; exact h))]⟩
section
variable {vs : List Nat} {Φ : PyData → T.S → Prop}
/-- the invariant of a comprehension's run -/
def LcI (T : Sto) (B : Addr → Prop) (H1 : Hp) (L : Addr) (I : Nat → List PyData → T.S → Prop) (i : Nat) (H : Hp) : Prop :=
  ∃ acc us s, I i acc s ∧ H L = some (.lst us) ∧ DDs (cut (fun a => B a ∨ a = L) H) us acc ∧ T.At s H ∧ ∀ a o, H1 a = some o → ¬ T.F a → a ≠ L → H a = some o
theorem lc_turn {A0 : Addr → Prop} {H0 : Hp} {B : Addr → Prop} {σ : L2.St} {H H1 : Hp} {s1 : T.S} {L : Addr} {I : Nat → List PyData → T.S → Prop} {i : Nat} {d : PyData} {y : V} (gi : GIn g vs) (c : Cxt T A0 H0 B σ H1 s1 ρ) (hD : H1 L = none)
    (p : LcI T B H1 L I i H) (hy : DD (cut B H1) y d) (hs : ∀ acc s, I i acc s → LcT T g tt te vs ρ d acc s (I (i + 1))) :
    g y (L2.wipe σ vs) H fun σ2 H2 => L2.wipe σ2 vs = L2.wipe σ vs ∧ tt σ2 H2 fun b H3 => if b = true then te σ2 H3 fun y H4 => ∃ acc, H4 L = some (.lst acc) ∧ acc.length < sizeLine ∧ LcI T B H1 L I (i + 1) (upd H4 L (.lst (acc ++ [y]))) else LcI T B H1 L I (i + 1) H3 := by
  obtain ⟨acc, us, s', hI, hL, hu, a, e⟩ := p
  have nb : ¬ B L := fun z => c.dm L z hD
  have nf : ¬ T.F L := fun z => nb (c.fb L z)
  have c2 := (c.wipe vs).comp hD e hL a
  have sc : Same (cut B H1) (cut (fun a => B a ∨ a = L) H) := fun b o q => by
    obtain ⟨q1, q2⟩ := cut_get q
    have nl : b ≠ L := fun z => by rw [z, hD] at q1; cases q1
    exact cut_of (e b o q1 (fun z => q2 (c.fb b z)) nl) fun z => z.elim q2 nl
  refine gi.ok σ y H _ (hs acc s' hI A0 H0 _ _ H c2 y (DD.mono sc _ _ hy) _ fun σ2 ρ2 hw c3 => ?_)
  refine hw A0 H0 _ σ2 H c3 _ fun b H3 s3 h3 e3 a3 => ?_
  have k3 : ∀ a o, H1 a = some o → ¬ T.F a → a ≠ L → H3 a = some o := fun a o q n z => e3 a o (e a o q n z) n
  have sm3 := e3.cut c3.fb
  cases b with
  | false => exact ⟨acc, us, s3, h3, e3 L _ hL nf, DDs.mono sm3 _ _ hu, a3, k3⟩
  | true =>
    refine (show WE T te s3 ρ2 _ from h3) A0 H0 _ σ2 H3 (c3.step e3 a3) _ fun y H4 x s4 ⟨hl, h4⟩ e4 a4 d4 => ?_
    have sm4 := e4.cut c3.fb
    have L4 : H4 L = some (.lst us) := e4 L _ (e3 L _ hL nf) nf
    have smL : Same (cut (fun a => B a ∨ a = L) H4) (cut (fun a => B a ∨ a = L) (upd H4 L (.lst (us ++ [y])))) := fun b o q => by
      obtain ⟨q1, q2⟩ := cut_get q
      exact cut_of (by rw [upd_ne fun z => q2 (.inr z)]; exact q1) q2
    refine ⟨us, L4, Nat.lt_of_lt_of_le (by rw [hu.len]; exact hl) (by decide), _, us ++ [y], s4, h4, upd_same, (DDs.mono smL _ _ (DDs.mono sm4 _ _ (DDs.mono sm3 _ _ hu))).app (DDs.one (DD.mono smL _ _ d4)), T.loc s4 H4 _ (fun b o hb q => by rw [upd_ne fun z => nf (by rw [← z]; exact hb)]; exact q) a4, fun b o q n z => by rw [upd_ne z]; exact e4 b o (k3 b o q n z) n⟩
theorem lc_end {A0 : Addr → Prop} {H0 : Hp} {B : Addr → Prop} {σ : L2.St} {H H1 : Hp} {s1 : T.S} {L : Addr} {I : Nat → List PyData → T.S → Prop} {n : Nat} (c : Cxt T A0 H0 B σ H1 s1 ρ) (hD : H1 L = none) (p : LcI T B H1 L I n H) (hd : ∀ acc s, I n acc s → Φ (.list acc) s) :
    ∃ x s', Φ x s' ∧ Fr T.F H1 H ∧ T.At s' H ∧ DD (cut B H) (.ref L) x := by
  obtain ⟨acc, us, s', hI, hL, hu, a, e⟩ := p
  have nb : ¬ B L := fun z => c.dm L z hD
  exact ⟨.list acc, s', hd acc s' hI, fun b o q n => e b o q n (fun z => by rw [z, hD] at q; cases q), a, .lst (cut_of hL nb) (DDs.mono (cut_mono fun b z => .inl z) _ _ hu)⟩
theorem wp_lc_list (gi : GIn g vs) (h : WE T tl s ρ fun x s1 => ∃ ds, x = .list ds ∧ ∃ I : Nat → List PyData → T.S → Prop, I 0 [] s1 ∧
      (∀ (i : Nat) d acc s', ds[i]? = some d → I i acc s' → LcT T g tt te vs ρ d acc s' (I (i + 1))) ∧ ∀ acc s', I ds.length acc s' → Φ (.list acc) s') :
    WE T (tLc (iSeq K tl) g tt te vs) s ρ Φ := fun A0 H0 B σ H c Q k => .inl <|
  h A0 H0 B σ H c _ fun v H1 x s1 ⟨ds, ex, I, h0, hs, hd⟩ e a d => by
    subst ex
    cases d with
    | @lst p xs _ ha hx =>
      obtain ⟨ha1, ha2⟩ := cut_get ha
      have c1 := c.step e a
      have nf : ¬ T.F p := fun z => ha2 (c.fb p z)
      refine ⟨p, rfl, ⟨xs, SqL.of ha1⟩, fun L hL => lc_list (K := K) (a := p) (xs := xs) (LcI T B H1 L I) ⟨[], [], s1, h0, upd_same, .nil, T.loc s1 H1 _ (fun b o _ q => same_new hL b o q) c1.at_, fun b o q _ z => (by rw [upd_ne z]; exact q)⟩ (fun i H' _ q => ?_) (fun i y H' hi q => ?_) fun H' q => ?_⟩
      · obtain ⟨_, _, _, _, _, _, _, e'⟩ := q
        exact SqL.of (e' p _ ha1 nf fun z => by rw [z, hL] at ha1; cases ha1)
      · obtain ⟨d, e1, e2⟩ := hx.get' hi
        exact lc_turn gi c1 hL q e2 fun acc s' hI => hs i d acc s' e1 hI
      · rw [hx.len] at q
        obtain ⟨x, s', f, e', a', d'⟩ := lc_end c1 hL q hd
        exact k _ H' x s' f (e.trans e') a' d'
theorem wp_lc_tup (gi : GIn g vs) (h : WE T tl s ρ fun x s1 => ∃ ds, x = .tuple ds ∧ ∃ I : Nat → List PyData → T.S → Prop, I 0 [] s1 ∧
      (∀ (i : Nat) d acc s', ds[i]? = some d → I i acc s' → LcT T g tt te vs ρ d acc s' (I (i + 1))) ∧ ∀ acc s', I ds.length acc s' → Φ (.list acc) s') :
    WE T (tLc (iSeq K tl) g tt te vs) s ρ Φ := fun A0 H0 B σ H c Q k => .inr <|
  h A0 H0 B σ H c _ fun v H1 x s1 ⟨ds, ex, I, h0, hs, hd⟩ e a d => by
    subst ex
    cases d with
    | @tup p xs _ ha hx =>
      obtain ⟨ha1, ha2⟩ := cut_get ha
      have c1 := c.step e a
      have nf : ¬ T.F p := fun z => ha2 (c.fb p z)
      refine ⟨p, rfl, ⟨xs, SqT.of ha1⟩, fun L hL => lc_tup (K := K) (a := p) (xs := xs) (LcI T B H1 L I) ⟨[], [], s1, h0, upd_same, .nil, T.loc s1 H1 _ (fun b o _ q => same_new hL b o q) c1.at_, fun b o q _ z => (by rw [upd_ne z]; exact q)⟩ (fun i H' _ q => ?_) (fun i y H' hi q => ?_) fun H' q => ?_⟩
      · obtain ⟨_, _, _, _, _, _, _, e'⟩ := q
        exact SqT.of (e' p _ ha1 nf fun z => by rw [z, hL] at ha1; cases ha1)
      · obtain ⟨d, e1, e2⟩ := hx.get' hi
        exact lc_turn gi c1 hL q e2 fun acc s' hI => hs i d acc s' e1 hI
      · rw [hx.len] at q
        obtain ⟨x, s', f, e', a', d'⟩ := lc_end c1 hL q hd
        exact k _ H' x s' f (e.trans e') a' d'
theorem wp_lc_range {ta : TA} (gi : GIn g vs) (h : WA T ta s ρ fun xs s1 => ∃ n : Int, xs = [.int n] ∧ n ≤ 1000000 ∧ -1000000 ≤ n ∧ ∃ I : Nat → List PyData → T.S → Prop, I 0 [] s1 ∧
      (∀ (i : Nat) acc s', (i : Int) < n → I i acc s' → LcT T g tt te vs ρ (.int (i : Int)) acc s' (I (i + 1))) ∧ ∀ acc s', I n.toNat acc s' → Φ (.list acc) s') :
    WE T (tLc (iRng1 ta) g tt te vs) s ρ Φ := fun A0 H0 B σ H c Q k =>
  h A0 H0 B σ H c _ fun v H1 x s1 ⟨n, ex, hm, hm2, I, h0, hs, hd⟩ e a d => by
    subst ex
    cases d with
    | cons d1 d2 =>
      cases d1
      cases d2
      have c1 := c.step e a
      refine ⟨n, rfl, by omega, by omega, fun L hL => lc_range (lo := 0) (n := n.toNat) (LcI T B H1 L I) ⟨[], [], s1, h0, upd_same, .nil, T.loc s1 H1 _ (fun b o _ q => same_new hL b o q) c1.at_, fun b o q _ z => (by rw [upd_ne z]; exact q)⟩ (fun i H' hi q => ?_) fun H' q => ?_⟩
      · have e0 : (0 : Int) + (i : Int) = (i : Int) := Int.zero_add _
        rw [e0]
        exact lc_turn gi c1 hL q (.int _) fun acc s' hI => hs i acc s' (by omega) hI
      · obtain ⟨x, s', f, e', a', d'⟩ := lc_end c1 hL q hd
        exact k _ H' x s' f (e.trans e') a' d'
end
end
end J

namespace J
open PySem L2

/-! ### rules for several kinds at once -/
def rAddU (K : PySem.W.Frag) : R2 := fun x y H Q => rI0 (fun i j => .int (i + j)) x y H Q ∨ (∃ i j, x = .str i ∧ y = .str j ∧ i.length + j.length ≤ sizeLine ∧ Q (.str (i ++ j)) H) ∨ rCat x y H Q ∨ rCatA K x y H Q
theorem op_addU {X : Cx} : OpR X (binaryOp .Add) (rAddU X.K) := op_add.or (op_add_str.or (op_cat.or op_catA))
def rSubI : R2 := rI0 fun i j => .int (i - j)
theorem op_subU {X : Cx} : OpR X (binaryOp .Sub) rSubI := op_sub
def rMulU (K : PySem.W.Frag) : R2 := fun x y H Q => rI CMul (fun i j => .int (i * j)) x y H Q ∨ rRep x y H Q
theorem op_mulU {X : Cx} : OpR X (binaryOp .Mult) (rMulU X.K) := op_mul.or op_rep
def rDivI : R2 := rI CDiv fun i j => .int (i / j)
theorem op_divU {X : Cx} : OpR X (binaryOp .FloorDiv) rDivI := op_fdiv
def rModI : R2 := rI (fun _ j => 0 < j) fun i j => .int (i % j)
theorem op_modU {X : Cx} : OpR X (binaryOp .Mod) rModI := op_mod
def rLtI : R2 := rI0 fun i j => .bl (decide (i < j))
def rLeI : R2 := rI0 fun i j => .bl (decide (i ≤ j))
def rGtI : R2 := rI0 fun i j => .bl (decide (j < i))
def rGeI : R2 := rI0 fun i j => .bl (decide (j ≤ i))
theorem op_ltU {X : Cx} : OpR X (compareOp .Lt) rLtI := op_lt
theorem op_leU {X : Cx} : OpR X (compareOp .LtE) rLeI := op_le
theorem op_gtU {X : Cx} : OpR X (compareOp .Gt) rGtI := op_gt
theorem op_geU {X : Cx} : OpR X (compareOp .GtE) rGeI := op_ge
def rInU (K : PySem.W.Frag) : R2 := fun x y H Q => rIn K false x y H Q ∨ (∃ i j, x = .str i ∧ y = .str j ∧ Q (.bl (!(Builtin.Str.occurrences j i 0 j.length 1).isEmpty)) H)
theorem op_inU {X : Cx} : OpR X (compareOp .In) (rInU X.K) := op_in_seq.or op_in_str
def rNiU (K : PySem.W.Frag) : R2 := fun x y H Q => rIn K true x y H Q ∨ (∃ i j, x = .str i ∧ y = .str j ∧ Q (.bl (!(!(Builtin.Str.occurrences j i 0 j.length 1).isEmpty))) H)
theorem op_niU {X : Cx} : OpR X (compareOp .NotIn) (rNiU X.K) := op_notIn_seq.or op_notIn_str
def rNegI : V → Hp → VK → Prop := rU fun i => .int (-i)
theorem op_negU {X : Cx} : UnR X (unaryOp .USub) rNegI := un_neg
def rIsN : R2 := fun x y H Q => y = .non ∧ Q (.bl (decide (x = .non))) H
def rNotN : R2 := fun x y H Q => y = .non ∧ Q (.bl (!decide (x = .non))) H
theorem op_isNU {X : Cx} : OpR X (compareOp .Is) rIsN := op_isN
theorem op_notNU {X : Cx} : OpR X (compareOp .IsNot) rNotN := op_notN
def rSlU (K : PySem.W.Frag) : V → Option Int → Option Int → Hp → VK → Prop := fun x lo hi H Q => rSlL K x lo hi H Q ∨ rSlA K x lo hi H Q ∨ rSlS x lo hi H Q
theorem sl_U {X : Cx} : SlR X (rSlU X.K) := sl_list.or (sl_tupA.or sl_str)
def rLenU (K : PySem.W.Frag) : List V → Hp → VK → Prop := fun xs H Q => (∃ p ys, xs = [.ref p] ∧ (SqL K H p ys ∨ SqT K H p ys) ∧ Q (.int ys.length) H) ∨ (∃ z, xs = [.str z] ∧ z.length ≤ sizeLine ∧ Q (.int z.length) H)
theorem call_lenU {X : Cx} : CallR X (.builtin "len") (rLenU X.K) := call_len_seq.or call_len_str
def rInt : List V → Hp → VK → Prop := fun xs H Q => (∃ i, xs = [.int i] ∧ Q (.int i) H) ∨ ∃ k, xs = [.bl k] ∧ Q (.int (if k then 1 else 0)) H
theorem call_intU {X : Cx} : CallR X (.type "int") rInt := call_int1
def rTupU (K : PySem.W.Frag) : List V → Hp → VK → Prop := fun xs H Q => ∃ p ys, xs = [.ref p] ∧ ((SqL K H p ys ∧ ∀ l, H l = none → Q (.ref l) (upd H l (.tup ys))) ∨ (SqT K H p ys ∧ Q (.ref p) H))
theorem call_tupU {X : Cx} : CallR X (.type "tuple") (rTupU X.K) := call_tuple_of
def rLstU (K : PySem.W.Frag) : List V → Hp → VK → Prop := fun xs H Q => ∃ p ys, xs = [.ref p] ∧ (SqL K H p ys ∨ SqT K H p ys) ∧ ∀ l, H l = none → Q (.ref l) (upd H l (.lst ys))
theorem call_lstU {X : Cx} : CallR X (.type "list") (rLstU X.K) := call_list_of

/-! ### over data -/
section
variable {K : PySem.W.Frag} {Φ : PyData → Prop}
theorem rd_addI {i j : Int} (q : Φ (.int (i + j))) : RD (rAddU K) (.int i) (.int j) Φ := fun B H v w Q dm d1 d2 k => by
  cases d1; cases d2
  exact .inl ⟨i, j, rfl, rfl, k _ H _ q (Same.refl H) (.int _)⟩
theorem rd_addS {i j : Str} (h : i.length + j.length ≤ 100000) (q : Φ (.str (i ++ j))) : RD (rAddU K) (.str i) (.str j) Φ := fun B H v w Q dm d1 d2 k => by
  cases d1; cases d2
  exact .inr (.inl ⟨i, j, rfl, rfl, Nat.le_trans h (by decide), k _ H _ q (Same.refl H) (.str _)⟩)
theorem rd_addL {xs ys : List PyData} (h : xs.length + ys.length ≤ 100000) (q : Φ (.list (xs ++ ys))) : RD (rAddU K) (.list xs) (.list ys) Φ := fun B H v w Q dm d1 d2 k => by
  cases d1 with
  | @lst a us _ ha hs =>
    cases d2 with
    | @lst b ws _ hb ht =>
      refine .inr (.inr (.inl ⟨a, b, us, ws, rfl, rfl, (cut_get ha).1, (cut_get hb).1, Nat.le_trans (by rw [hs.len, ht.len]; exact h) (by decide), fun p hp => ?_⟩))
      have sm := (Fr.of (F := B) (same_new (o := .lst (us ++ ws)) hp)).cut (B := B) fun _ z => z
      exact k _ _ _ q (same_new hp) (.lst (new_cut dm hp) ((DDs.mono sm _ _ hs).app (DDs.mono sm _ _ ht)))
theorem rd_addT {xs ys : List PyData} (h : xs.length + ys.length ≤ 100000) (q : Φ (.tuple (xs ++ ys))) : RD (rAddU K) (.tuple xs) (.tuple ys) Φ := fun B H v w Q dm d1 d2 k => by
  cases d1 with
  | @tup a us _ ha hs =>
    cases d2 with
    | @tup b ws _ hb ht =>
      refine .inr (.inr (.inr ⟨a, b, us, ws, rfl, rfl, SqT.of (cut_get ha).1, SqT.of (cut_get hb).1, Nat.le_trans (by rw [hs.len, ht.len]; exact h) (by decide), fun e => ?_, fun _ e => ?_, fun _ _ p hp => ?_⟩))
      · subst e
        cases hs
        exact k _ H _ q (Same.refl H) (.tup hb ht)
      · subst e
        cases ht
        rw [List.append_nil] at q
        exact k _ H _ q (Same.refl H) (.tup ha hs)
      · have sm := (Fr.of (F := B) (same_new (o := .tup (us ++ ws)) hp)).cut (B := B) fun _ z => z
        exact k _ _ _ q (same_new hp) (.tup (new_cut dm hp) ((DDs.mono sm _ _ hs).app (DDs.mono sm _ _ ht)))
theorem rd_sub {i j : Int} (q : Φ (.int (i - j))) : RD rSubI (.int i) (.int j) Φ := fun B H v w Q dm d1 d2 k => by
  cases d1; cases d2
  exact ⟨i, j, rfl, rfl, k _ H _ q (Same.refl H) (.int _)⟩
theorem rd_mulI {i j : Int} (h : CMul i j) (q : Φ (.int (i * j))) : RD (rMulU K) (.int i) (.int j) Φ := fun B H v w Q dm d1 d2 k => by
  cases d1; cases d2
  exact .inl ⟨i, j, rfl, rfl, h, k _ H _ q (Same.refl H) (.int _)⟩
theorem DDs.rep {H : Hp} {us : List V} {xs : List PyData} (h : DDs H us xs) : ∀ n : Nat, DDs H (List.replicate n us).flatten (List.replicate n xs).flatten
  | 0 => .nil
  | n + 1 => by
    rw [List.replicate_succ, List.replicate_succ, List.flatten_cons, List.flatten_cons]
    exact h.app (DDs.rep h n)
theorem rd_mulL {xs : List PyData} {j : Int} (h0 : j ≤ 10000 ∧ -10000 ≤ j) (h : xs.length * j.toNat ≤ 100000) (q : Φ (.list (List.replicate j.toNat xs).flatten)) : RD (rMulU K) (.list xs) (.int j) Φ := fun B H v w Q dm d1 d2 k => by
  cases d2
  cases d1 with
  | @lst a us _ ha hs =>
    refine .inr ⟨a, j, us, rfl, rfl, (cut_get ha).1, by omega, by omega, Nat.le_trans (by rw [hs.len]; exact h) (by decide), fun p hp => ?_⟩
    have sm := (Fr.of (F := B) (same_new (o := .lst (List.replicate j.toNat us).flatten) hp)).cut (B := B) fun _ z => z
    exact k _ _ _ q (same_new hp) (.lst (new_cut dm hp) ((DDs.mono sm _ _ hs).rep _))
theorem rd_div {i j : Int} (h : 0 < j ∧ j < 1073741824) (q : Φ (.int (i / j))) : RD rDivI (.int i) (.int j) Φ := fun B H v w Q dm d1 d2 k => by
  cases d1; cases d2
  exact ⟨i, j, rfl, rfl, h, k _ H _ q (Same.refl H) (.int _)⟩
theorem rd_mod {i j : Int} (h : 0 < j) (q : Φ (.int (i % j))) : RD rModI (.int i) (.int j) Φ := fun B H v w Q dm d1 d2 k => by
  cases d1; cases d2
  exact ⟨i, j, rfl, rfl, h, k _ H _ q (Same.refl H) (.int _)⟩
theorem rd_lt {i j : Int} (q : Φ (.bool (decide (i < j)))) : RD rLtI (.int i) (.int j) Φ := fun B H v w Q dm d1 d2 k => by
  cases d1; cases d2
  exact ⟨i, j, rfl, rfl, k _ H _ q (Same.refl H) (.bl _)⟩
theorem rd_le {i j : Int} (q : Φ (.bool (decide (i ≤ j)))) : RD rLeI (.int i) (.int j) Φ := fun B H v w Q dm d1 d2 k => by
  cases d1; cases d2
  exact ⟨i, j, rfl, rfl, k _ H _ q (Same.refl H) (.bl _)⟩
theorem rd_gt {i j : Int} (q : Φ (.bool (decide (j < i)))) : RD rGtI (.int i) (.int j) Φ := fun B H v w Q dm d1 d2 k => by
  cases d1; cases d2
  exact ⟨i, j, rfl, rfl, k _ H _ q (Same.refl H) (.bl _)⟩
theorem rd_ge {i j : Int} (q : Φ (.bool (decide (j ≤ i)))) : RD rGeI (.int i) (.int j) Φ := fun B H v w Q dm d1 d2 k => by
  cases d1; cases d2
  exact ⟨i, j, rfl, rfl, k _ H _ q (Same.refl H) (.bl _)⟩
theorem rd_eq {x y : PyData} (h1 : SeqAt.shaped x = true) (h2 : SeqAt.shaped y = true) (q : Φ (.bool (PyData.eqv x y))) : RD (rEqD K) x y Φ := fun B H v w Q dm d1 d2 k =>
  ⟨x, y, DD.dp _ _ (DD.mono cut_same _ _ d1), DD.dp _ _ (DD.mono cut_same _ _ d2), h1, h2, k _ H _ q (Same.refl H) (.bl _)⟩
theorem rd_ne {x y : PyData} (h1 : SeqAt.shaped x = true) (h2 : SeqAt.shaped y = true) (q : Φ (.bool (!PyData.eqv x y))) : RD (rNeD K) x y Φ := fun B H v w Q dm d1 d2 k =>
  ⟨x, y, DD.dp _ _ (DD.mono cut_same _ _ d1), DD.dp _ _ (DD.mono cut_same _ _ d2), h1, h2, k _ H _ q (Same.refl H) (.bl _)⟩
def isNoneD : PyData → Bool
  | .none => true
  | _ => false
theorem DD.isN {H : Hp} {v : V} {x : PyData} (h : DD H v x) : decide (v = .non) = isNoneD x := by cases h <;> simp [isNoneD]
theorem rd_isN {x : PyData} (q : Φ (.bool (isNoneD x))) : RD rIsN x .none Φ := fun B H v w Q dm d1 d2 k => by
  cases d2
  exact ⟨rfl, by rw [d1.isN]; exact k _ H _ q (Same.refl H) (.bl _)⟩
theorem rd_notN {x : PyData} (q : Φ (.bool (!isNoneD x))) : RD rNotN x .none Φ := fun B H v w Q dm d1 d2 k => by
  cases d2
  exact ⟨rfl, by rw [d1.isN]; exact k _ H _ q (Same.refl H) (.bl _)⟩
theorem rd_ixL {xs : List PyData} {i : Int} {d : PyData} (h : atI xs i = some d) (q : Φ d) : RD (rIx K) (.list xs) (.int i) Φ := fun B H v w Q dm d1 d2 k => by
  cases d2
  cases d1 with
  | lst ha hs =>
    obtain ⟨u, h1, h2⟩ := hs.at_ h
    exact .inl ⟨_, _, i, u, rfl, rfl, SqL.of (cut_get ha).1, h1, k _ H _ q (Same.refl H) h2⟩
theorem rd_ixT {xs : List PyData} {i : Int} {d : PyData} (h : atI xs i = some d) (q : Φ d) : RD (rIx K) (.tuple xs) (.int i) Φ := fun B H v w Q dm d1 d2 k => by
  cases d2
  cases d1 with
  | tup ha hs =>
    obtain ⟨u, h1, h2⟩ := hs.at_ h
    exact .inr (.inl ⟨_, _, i, u, rfl, rfl, SqT.of (cut_get ha).1, h1, k _ H _ q (Same.refl H) h2⟩)
theorem rd_ixS {z : Str} {i : Int} {c : Nat} (hl : z.length ≤ 100000) (h : atI z.cps.toList i = some c) (q : Φ (.str ⟨#[c]⟩)) : RD (rIx K) (.str z) (.int i) Φ := fun B H v w Q dm d1 d2 k => by
  cases d2
  cases d1
  exact .inr (.inr ⟨z, i, c, rfl, rfl, Nat.le_trans hl (by decide), h, k _ H _ q (Same.refl H) (.str _)⟩)
theorem rd_ix0 {d : PyData} {xs : List PyData} (q : Φ d) : RD (rIx K) (.tuple (d :: xs)) (.int 0) Φ := rd_ixT (atI_nat (j := 0) rfl) q
theorem rd_ix1 {d e : PyData} {xs : List PyData} (q : Φ e) : RD (rIx K) (.tuple (d :: e :: xs)) (.int 1) Φ := rd_ixT (atI_nat (j := 1) rfl) q
theorem rd_ix2 {d e f : PyData} {xs : List PyData} (q : Φ f) : RD (rIx K) (.tuple (d :: e :: f :: xs)) (.int 2) Φ := rd_ixT (atI_nat (j := 2) rfl) q
theorem rd_ix3 {d e f g : PyData} {xs : List PyData} (q : Φ g) : RD (rIx K) (.tuple (d :: e :: f :: g :: xs)) (.int 3) Φ := rd_ixT (atI_nat (j := 3) rfl) q
theorem r1_neg {i : Int} (q : Φ (.int (-i))) : R1 rNegI (.int i) Φ := fun B H v Q dm d1 k => by
  cases d1
  exact ⟨i, rfl, k _ H _ q (Same.refl H) (.int _)⟩
/-- in a list or tuple of ints, of texts -/
theorem in_ints {H : Hp} {i : Int} : ∀ {ns : List Int} {vs : List V}, DDs H vs (ns.map PyData.int) → vs.all flatV = true ∧ inV (.int i) vs = decide (i ∈ ns)
  | [], _, h => by cases h; exact ⟨rfl, by simp [inV]⟩
  | n :: r, _, h => by
    cases h with
    | cons h1 h2 =>
      cases h1
      obtain ⟨e1, e2⟩ := in_ints (i := i) h2
      refine ⟨by rw [List.all_cons, e1]; rfl, ?_⟩
      unfold inV at e2 ⊢
      rw [List.any_cons, e2]
      show ((n == i) || decide (i ∈ r)) = decide (i ∈ n :: r)
      by_cases q : n = i
      · subst q; simp
      · have q2 : ¬ i = n := fun z => q z.symm
        simp [q, q2]
theorem rd_inIT {i : Int} {ns : List Int} {xs : List PyData} (e : xs = ns.map PyData.int) (q : Φ (.bool (decide (i ∈ ns)))) : RD (rInU K) (.int i) (.tuple xs) Φ := fun B H v w Q dm d1 d2 k => by
  subst e
  cases d1
  cases d2 with
  | tup ha hs =>
    obtain ⟨e1, e2⟩ := in_ints (i := i) hs
    refine .inl ⟨_, _, rfl, .inr (SqT.of (cut_get ha).1), rfl, e1, ?_⟩
    rw [e2]
    exact k _ H _ q (Same.refl H) (.bl _)
theorem rd_niIT {i : Int} {ns : List Int} {xs : List PyData} (e : xs = ns.map PyData.int) (q : Φ (.bool (!decide (i ∈ ns)))) : RD (rNiU K) (.int i) (.tuple xs) Φ := fun B H v w Q dm d1 d2 k => by
  subst e
  cases d1
  cases d2 with
  | tup ha hs =>
    obtain ⟨e1, e2⟩ := in_ints (i := i) hs
    refine .inl ⟨_, _, rfl, .inr (SqT.of (cut_get ha).1), rfl, e1, ?_⟩
    rw [e2]
    exact k _ H _ q (Same.refl H) (.bl _)
/-- slices -/
def cutD (xs : List PyData) (lo hi : Option Int) : List PyData := (xs.drop (HT.sIx xs.length 0 lo)).take (HT.sIx xs.length xs.length hi - HT.sIx xs.length 0 lo)
theorem DDs.cutV {H : Hp} {us : List V} {xs : List PyData} (h : DDs H us xs) (lo hi : Option Int) : DDs H (L2.cutV us lo hi) (cutD xs lo hi) := by
  unfold L2.cutV cutD
  rw [h.len]
  exact (h.drop _).take _
theorem rs_list {xs : List PyData} {lo hi : Option Int} (q : Φ (.list (cutD xs lo hi))) : RS (rSlU K) (.list xs) lo hi Φ := fun B H v Q dm d1 k => by
  cases d1 with
  | @lst a us _ ha hs =>
    refine .inl ⟨a, us, rfl, SqL.of (cut_get ha).1, fun p hp => ?_⟩
    have sm := (Fr.of (F := B) (same_new (o := .lst (L2.cutV us lo hi)) hp)).cut (B := B) fun _ z => z
    exact k _ _ _ q (same_new hp) (.lst (new_cut dm hp) ((DDs.mono sm _ _ hs).cutV lo hi))
theorem rs_tup {xs : List PyData} {lo hi : Option Int} (q : Φ (.tuple (cutD xs lo hi))) : RS (rSlU K) (.tuple xs) lo hi Φ := fun B H v Q dm d1 k => by
  cases d1 with
  | @tup a us _ ha hs =>
    refine .inr (.inl ⟨a, us, rfl, SqT.of (cut_get ha).1, fun ⟨e1, e2⟩ => ?_, fun _ p hp => ?_⟩)
    · have e : cutD xs lo hi = xs := by
        unfold cutD
        rw [← hs.len, e1, e2, List.drop_zero, Nat.sub_zero, hs.len, List.take_length]
      rw [e] at q
      exact k _ H _ q (Same.refl H) (.tup ha hs)
    · have sm := (Fr.of (F := B) (same_new (o := .tup (L2.cutV us lo hi)) hp)).cut (B := B) fun _ z => z
      exact k _ _ _ q (same_new hp) (.tup (new_cut dm hp) ((DDs.mono sm _ _ hs).cutV lo hi))
theorem rs_str {z : Str} {lo hi : Option Int} (hl : z.length ≤ 100000) (q : Φ (.str (cutS z lo hi))) : RS (rSlU K) (.str z) lo hi Φ := fun B H v Q dm d1 k => by
  cases d1
  exact .inr (.inr ⟨z, rfl, Nat.le_trans hl (by decide), k _ H _ q (Same.refl H) (.str _)⟩)
/-- built-in calls -/
theorem rc_lenL {xs : List PyData} (q : Φ (.int xs.length)) : RC (rLenU K) [.list xs] Φ := fun B H vs Q dm d k => by
  cases d with
  | cons d1 d2 =>
    cases d2
    cases d1 with
    | lst ha hs =>
      refine .inl ⟨_, _, rfl, .inl (SqL.of (cut_get ha).1), ?_⟩
      rw [hs.len]
      exact k _ H _ q (Same.refl H) (.int _)
theorem rc_lenT {xs : List PyData} (q : Φ (.int xs.length)) : RC (rLenU K) [.tuple xs] Φ := fun B H vs Q dm d k => by
  cases d with
  | cons d1 d2 =>
    cases d2
    cases d1 with
    | tup ha hs =>
      refine .inl ⟨_, _, rfl, .inr (SqT.of (cut_get ha).1), ?_⟩
      rw [hs.len]
      exact k _ H _ q (Same.refl H) (.int _)
theorem rc_lenS {z : Str} (hl : z.length ≤ 100000) (q : Φ (.int z.length)) : RC (rLenU K) [.str z] Φ := fun B H vs Q dm d k => by
  cases d with
  | cons d1 d2 =>
    cases d2
    cases d1
    exact .inr ⟨_, rfl, Nat.le_trans hl (by decide), k _ H _ q (Same.refl H) (.int _)⟩
theorem rc_intI {i : Int} (q : Φ (.int i)) : RC rInt [.int i] Φ := fun B H vs Q dm d k => by
  cases d with
  | cons d1 d2 =>
    cases d2
    cases d1
    exact .inl ⟨_, rfl, k _ H _ q (Same.refl H) (.int _)⟩
theorem rc_intB {b : Bool} (q : Φ (.int (if b then 1 else 0))) : RC rInt [.bool b] Φ := fun B H vs Q dm d k => by
  cases d with
  | cons d1 d2 =>
    cases d2
    cases d1
    exact .inr ⟨_, rfl, k _ H _ q (Same.refl H) (.int _)⟩
theorem rc_sum {ns : List Int} {xs : List PyData} (e : xs = ns.map PyData.int) (q : Φ (.int ns.sum)) : RC (rSum K) [.list xs] Φ := fun B H vs Q dm d k => by
  subst e
  cases d with
  | cons d1 d2 =>
    cases d2
    cases d1 with
    | lst ha hs =>
      rw [hs.of_ints] at ha
      exact ⟨_, ns, rfl, SqL.of (cut_get ha).1, k _ H _ q (Same.refl H) (.int _)⟩
theorem rc_max {ns : List Int} {xs : List PyData} (e : xs = ns.map PyData.int) (hl : 0 < ns.length) (q : ∀ m, m ∈ ns → (∀ y, y ∈ ns → y ≤ m) → Φ (.int m)) : RC (rMax K) [.list xs] Φ := fun B H vs Q dm d k => by
  subst e
  cases d with
  | cons d1 d2 =>
    cases d2
    cases d1 with
    | lst ha hs =>
      rw [hs.of_ints] at ha
      exact ⟨_, ns, rfl, SqL.of (cut_get ha).1, hl, fun m h1 h2 => k _ H _ (q m h1 h2) (Same.refl H) (.int _)⟩
theorem rc_all {bs : List Bool} {xs : List PyData} (e : xs = bs.map PyData.bool) (q : Φ (.bool (bs.all id))) : RC (rAll K) [.list xs] Φ := fun B H vs Q dm d k => by
  subst e
  cases d with
  | cons d1 d2 =>
    cases d2
    cases d1 with
    | lst ha hs =>
      rw [hs.of_bools] at ha
      exact ⟨_, bs, rfl, SqL.of (cut_get ha).1, k _ H _ q (Same.refl H) (.bl _)⟩
theorem rc_tupL {xs : List PyData} (q : Φ (.tuple xs)) : RC (rTupU K) [.list xs] Φ := fun B H vs Q dm d k => by
  cases d with
  | cons d1 d2 =>
    cases d2
    cases d1 with
    | @lst a us _ ha hs =>
      refine ⟨_, _, rfl, .inl ⟨SqL.of (cut_get ha).1, fun p hp => ?_⟩⟩
      have sm := (Fr.of (F := B) (same_new (o := .tup us) hp)).cut (B := B) fun _ z => z
      exact k _ _ _ q (same_new hp) (.tup (new_cut dm hp) (DDs.mono sm _ _ hs))
theorem rc_tupT {xs : List PyData} (q : Φ (.tuple xs)) : RC (rTupU K) [.tuple xs] Φ := fun B H vs Q dm d k => by
  cases d with
  | cons d1 d2 =>
    cases d2
    cases d1 with
    | tup ha hs => exact ⟨_, _, rfl, .inr ⟨SqT.of (cut_get ha).1, k _ H _ q (Same.refl H) (.tup ha hs)⟩⟩
theorem rc_lstL {xs : List PyData} (q : Φ (.list xs)) : RC (rLstU K) [.list xs] Φ := fun B H vs Q dm d k => by
  cases d with
  | cons d1 d2 =>
    cases d2
    cases d1 with
    | @lst a us _ ha hs =>
      refine ⟨_, _, rfl, .inl (SqL.of (cut_get ha).1), fun p hp => ?_⟩
      have sm := (Fr.of (F := B) (same_new (o := .lst us) hp)).cut (B := B) fun _ z => z
      exact k _ _ _ q (same_new hp) (.lst (new_cut dm hp) (DDs.mono sm _ _ hs))
theorem rc_lstT {xs : List PyData} (q : Φ (.list xs)) : RC (rLstU K) [.tuple xs] Φ := fun B H vs Q dm d k => by
  cases d with
  | cons d1 d2 =>
    cases d2
    cases d1 with
    | @tup a us _ ha hs =>
      refine ⟨_, _, rfl, .inr (SqT.of (cut_get ha).1), fun p hp => ?_⟩
      have sm := (Fr.of (F := B) (same_new (o := .lst us) hp)).cut (B := B) fun _ z => z
      exact k _ _ _ q (same_new hp) (.lst (new_cut dm hp) (DDs.mono sm _ _ hs))
end

/-! ### isinstance -/
def tyD : PyData → String
  | .none => "NoneType" | .bool _ => "bool" | .int _ => "int" | .str _ => "str" | .list _ => "list" | .tuple _ => "tuple" | .dict _ => "dict"
theorem DD.ty {K : PySem.W.Frag} {H : Hp} {v : V} {x : PyData} (h : DD H v x) : TyX K H v (.type (tyD x)) := by
  cases h with
  | non => exact .base .non
  | bl b => exact .base (.bl b)
  | int i => exact .base (.int i)
  | str x => exact .base (.str x)
  | lst ha _ => exact .base (.lst ha)
  | tup ha _ => exact .base (.tup ha)
/-- isinstance of data -/
def isiD (x : PyData) (n : String) : Bool := match x with
  | .bool _ => n == "bool" || n == "int"
  | x => n == tyD x
theorem TyX.mono {K : PySem.W.Frag} {H H' : Hp} (e : Same H H') {v : V} {x : PyData} (h : DD H v x) : TyX K H' v (.type (tyD x)) := DD.ty (DD.mono e _ _ h)
theorem kitB_is (x : PyData) (n : String) (hx : ∀ k, x ≠ .dict k) (hn : n = "tuple" ∨ n = "list" ∨ n = "int" ∨ n = "bool" ∨ n = "str") : kitB (tyD x) n = some (isiD x n) := by
  rcases hn with rfl | rfl | rfl | rfl | rfl <;> cases x <;> first | exact absurd rfl (hx _) | (simp only [tyD, isiD]; decide +kernel)
theorem DD.noDict {H : Hp} {v : V} {x : PyData} (h : DD H v x) (k : List (PyData × PyData)) : x ≠ .dict k := by
  rintro rfl
  cases h
section
variable {T : Sto} {s : T.S} {ρ : DEnv} {Φ : PyData → T.S → Prop} {te : TE} {K : PySem.W.Frag}
theorem wp_isi {n : String} (hn : n = "tuple" ∨ n = "list" ∨ n = "int" ∨ n = "bool" ∨ n = "str") (h : WE T te s ρ fun x s1 => Φ (.bool (isiD x n)) s1) : WE T (tCB (rIsi K) (tCons te (tCons (tC (.ty n)) tNil))) s ρ Φ := fun A0 H0 B σ H c Q k =>
  h A0 H0 B σ H c _ fun v H1 x s1 h1 e1 a1 d1 => ⟨v, .ty n, .type (tyD x), .type n, isiD x n, rfl, .ty n, TyX.mono cut_same d1, kit_ty (kitB_is x n d1.noDict hn), k _ H1 _ s1 h1 e1 a1 (.bl _)⟩
end

/-! ### promises over data -/
abbrev Pre := List PyData → (PyData → Prop) → Prop
/-- a def of data -/
def spD (P : Pre) : Sp := fun vs H Q _ => ∃ (B : Addr → Prop) (ds : List PyData) (Ψ : PyData → Prop), (∀ a, B a → H a ≠ none) ∧ DDs (cut B H) vs ds ∧ P ds Ψ ∧ ∀ v H' x, Ψ x → Same H H' → DD (cut B H') v x → Q v H'
section
variable {T : Sto} {s : T.S} {ρ : DEnv} {Φ : PyData → T.S → Prop} {ta : TA}
theorem wp_callD {P : Pre} {E : XK} (h : WA T ta s ρ fun xs s1 => P xs fun x => Φ x s1) : WE T (tCall (spD P) [] E ta) s ρ Φ := fun A0 H0 B σ H c Q k =>
  h A0 H0 B σ H c _ fun vs H1 xs s1 h1 e1 a1 d1 => ⟨B, xs, _, (c.step e1 a1).dm, by rw [List.append_nil]; exact d1, h1, fun v H' x hx e d => k v H' x s1 hx (e1.trans (Fr.of e)) (T.loc s1 H1 H' (fun a o _ q => e a o q) a1) d⟩
end
/-- the box of draws -/
def BoxAt (b l : Addr) (H : Hp) : Prop := ∃ (ns : List Int) (z : Int), H b = some (.lst [.ref l, .int z]) ∧ H l = some (.lst (ns.map V.int))
@[reducible] def bxS (b l : Addr) : Sto := ⟨Unit, fun a => a = b ∨ a = l, fun _ H => BoxAt b l H, fun _ H H' e ⟨ns, z, h1, h2⟩ => ⟨ns, z, e b _ (.inl rfl) h1, e l _ (.inr rfl) h2⟩, fun _ H a ⟨ns, z, h1, h2⟩ f => by
  rcases f with rfl | rfl
  · rw [h1]; exact fun z => nomatch z
  · rw [h2]; exact fun z => nomatch z⟩
/-- a def that is handed the box first, then data -/
def spB (P : Pre) : Sp := fun vs H Q _ => ∃ (b l : Addr) (us : List V) (B : Addr → Prop) (ds : List PyData) (Ψ : PyData → Prop), vs = .ref b :: us ∧ B b ∧ B l ∧ BoxAt b l H ∧ (∀ a, B a → H a ≠ none) ∧ DDs (cut B H) us ds ∧ P ds Ψ ∧
  ∀ v H' x, Ψ x → Fr (fun a => a = b ∨ a = l) H H' → BoxAt b l H' → DD (cut B H') v x → Q v H'
section
variable {b l : Addr} {s : (bxS b l).S} {ρ : DEnv} {Φ : PyData → (bxS b l).S → Prop} {ta : TA}
theorem wp_callB {P : Pre} {E : XK} {i : Nat} (hi : ρ[i]? = some (some (.v (.ref b)))) (h : WA (bxS b l) ta s ρ fun xs s1 => P xs fun x => Φ x s1) : WE (bxS b l) (tCall (spB P) [] E (tCons (tVar i) ta)) s ρ Φ := fun A0 H0 B σ H c Q k =>
  ⟨.ref b, join_some (c.sl i _ hi), h A0 H0 B σ H c _ fun vs H1 xs s1 h1 e1 a1 d1 => ⟨b, l, vs, B, xs, _, by rw [List.append_nil], c.fb b (.inl rfl), c.fb l (.inr rfl), a1, (c.step e1 a1).dm, d1, h1, fun v H' x hx e a d => k v H' x s1 hx (e1.trans e) a d⟩⟩
end

/-! ### a def of the text -/
def init (N : List Str) (ds : List PyData) : DEnv := ds.map (fun d => some (.d d)) ++ List.replicate (N.length - ds.length) none
theorem start_get {N : List Str} {vs : List V} {i : Nat} {v : V} (h : vs[i]? = some v) : (L2.start N vs)[i]? = some (some v) := by
  have hi := (List.getElem?_eq_some_iff.mp h).1
  unfold L2.start
  rw [List.getElem?_append_left (by rw [List.length_map]; exact hi), List.getElem?_map, h]
  rfl
theorem init_get {N : List Str} {ds : List PyData} {i : Nat} {w : W} (h : (init N ds)[i]? = some (some w)) : ∃ d, ds[i]? = some d ∧ w = .d d := by
  unfold init at h
  by_cases hi : i < ds.length
  · rw [List.getElem?_append_left (by rw [List.length_map]; exact hi), List.getElem?_map] at h
    cases e : ds[i]? with
    | none => rw [e] at h; cases h
    | some d => rw [e] at h; cases h; exact ⟨d, rfl, rfl⟩
  · rw [List.getElem?_append_right (by rw [List.length_map]; omega), List.getElem?_replicate] at h
    split at h <;> cases h
theorem cxt_start {N : List Str} {vs : List V} {ds : List PyData} {B : Addr → Prop} {H : Hp} (dm : ∀ a, B a → H a ≠ none) (d : DDs (cut B H) vs ds) : Cxt uS B H B (L2.start N vs) H () (init N ds) := by
  refine ⟨fun a z => z.elim, dm, trivial, ?_, fun i w q => ?_, Fr.refl, fun a z => z, dm, fun a z => .inl z, fun i j xs ys p h1 _ => ?_⟩
  · unfold L2.start init
    rw [List.length_append, List.length_append, List.length_map, List.length_map, List.length_replicate, List.length_replicate, d.len]
  · obtain ⟨x, h1, rfl⟩ := init_get q
    obtain ⟨v, h2, h3⟩ := d.get h1
    exact ⟨v, by rw [start_get h2]; rfl, h3⟩
  · obtain ⟨x, _, h⟩ := init_get h1
    cases h
theorem fnD {P : Program} {w : World} {K : PySem.W.Frag} {mg : Str → Option Value} {base : Heap} {x qual : Str} {st : Stmt} {f : Addr} {fd : FuncData} {N ps : List Str} {k : Nat} {Pr : Pre} {t : TS} (F : Fun K x qual st f fd) (S : FnScope N ps (defScope st))
    (len : ∀ ds Ψ, Pr ds Ψ → ds.length = ps.length)
    (hb : ∀ (cdv : Value) (A : Around) (outer : List PySem.Env) (s : Shared) (H : Hp) (E : XK), Room k (A.deeper (PyProof.Rows.envOfC qual (defScope st) s.heap.objs.size f cdv)) → PSs (cxOf CX0 P w K mg base N qual (defScope st) f cdv A outer s H E).nox (defBody st) t)
    (hw : ∀ ds Ψ, Pr ds Ψ → WS uS t () (init N ds) (fun x _ => Ψ x) (fun _ _ => Ψ .none)) : FnOk P w K mg base CX0 (k + 1) f fd ps (spD Pr) := by
  refine F.ok S (fun vs H Q E h => ?_) (fun cdv A outer s H vs Q E hr h => ?_)
  · obtain ⟨B, ds, Ψ, _, d, p, _⟩ := h
    rw [d.len]
    exact len ds Ψ p
  · obtain ⟨B, ds, Ψ, dm, d, p, q⟩ := h
    refine ⟨t, hb cdv A outer s H E hr, ?_⟩
    refine hw ds Ψ p B H B _ H (cxt_start dm d) _ (fun v H' y s' hy e _ d' => q v H' y hy e.same d') fun B' σ' H' s' ρ' hn c => q .non H' .none hn c.fr.same .non
end J

namespace J
open PySem L2

/-! ### a def that is called by its name -/
def Cal (P : Program) (w : World) (K : PySem.W.Frag) (mg : Str → Option Value) (base : Heap) (k : Nat) (x : Str) (ps : List Str) (sp : Sp) : Prop :=
  ∃ (f : Addr) (fd : FuncData), mg x = some (.ref f) ∧ PySem.W.keepIn K (.ref f) = true ∧ Binds K fd ps [] ∧ FnOk P w K mg base CX0 k f fd ps sp
section
variable {X : Cx} {k : Nat} {ps : List Str} {sp : Sp} {x : Str} {p pos : Pos} {e : Expr} {es : List Expr} {t : TA}
theorem pe_callC (h : Cal X.prog X.w X.K X.mg X.base k x ps sp) (hr : Room k X.A) (hg : Gl X x) (ha : PA X (e :: es) t) (hdb : (x == ("__debug__" : Str)) = false := by decide) (he : starEach (e :: es) X.env = (false, eval e X.env) :: starEach es X.env := by rfl)
    (hpl : (backTo pos (starEach es X.env)).any (·.1) = false := by rfl) : PE X (.Call (.Name x p) (e :: es) [] pos) (tCall sp [] E0 t) := by
  obtain ⟨f, fd, hm, hk, hb, F⟩ := h
  exact pe_call F hr hg hm hk hb .nil pass0 ha hdb he hpl
end
section
variable {X : Cx} {k : Nat} {ps : List Str} {sp : Sp} {x : Str} {p pos : Pos}
theorem pe_callC0 (h : Cal X.prog X.w X.K X.mg X.base k x ps sp) (hr : Room k X.A) (hg : Gl X x) (hdb : (x == ("__debug__" : Str)) = false := by decide) : PE X (.Call (.Name x p) [] [] pos) (tCall sp [] E0 tNil) := by
  obtain ⟨f, fd, hm, hk, hb, F⟩ := h
  exact pe_call0 F hr hg hm hk hb .nil pass0 hdb
end
/-- the built-in names -/
structure Blt (mg : Str → Option Value) : Prop where
  range : mg "range" = none
  isinstance : mg "isinstance" = none
  len : mg "len" = none
  int : mg "int" = none
  bool : mg "bool" = none
  str : mg "str" = none
  tuple : mg "tuple" = none
  list : mg "list" = none
  sum : mg "sum" = none
  max : mg "max" = none
  min : mg "min" = none
  all : mg "all" = none
  sorted : mg "sorted" = none
  enumerate : mg "enumerate" = none

/-! ### a op b op c -/
section
variable {T : Sto} {s : T.S} {ρ : DEnv} {Φ : PyData → T.S → Prop} {ta tb tc : TE}
theorem wp_chain {r r' : R2} (h : WE T ta s ρ fun x s1 => WE T tb s1 ρ fun y s2 => RD r x y fun z => ∃ b, z = .bool b ∧ if b = true then WE T tc s2 ρ fun w s3 => RD r' y w fun z' => Φ z' s3 else Φ (.bool false) s2) : WE T (tChain r r' ta tb tc) s ρ Φ := fun A0 H0 B σ H c Q k =>
  h A0 H0 B σ H c _ fun v H1 x s1 h1 e1 a1 d1 => h1 A0 H0 B σ H1 (c.step e1 a1) _ fun u H2 y s2 h2 e2 a2 d2 =>
    h2 B H2 v u _ ((c.step e1 a1).step e2 a2).dm (DD.mono (e2.cut c.fb) _ _ d1) d2 fun z H3 zd ⟨b, ez, q⟩ e3 d3 => by
      subst ez
      cases d3
      refine ⟨b, rfl, ?_⟩
      have a3 : T.At s2 H3 := T.loc s2 H2 H3 (fun a o _ h => e3 a o h) a2
      have f3 : Fr T.F H H3 := (e1.trans e2).trans (Fr.of e3)
      cases b with
      | false => exact k _ H3 _ s2 q f3 a3 (.bl false)
      | true =>
        refine (show WE T tc s2 ρ _ from q) A0 H0 B σ H3 (c.step f3 a3) _ fun w H4 x4 s4 h4 e4 a4 d4 => ?_
        have g4 : Fr T.F H2 H4 := (Fr.of e3).trans e4
        refine h4 B H4 u w Q ((c.step f3 a3).step e4 a4).dm (DD.mono (g4.cut c.fb) _ _ d2) d4 fun z5 H5 x5 h5 e5 d5 => ?_
        exact k z5 H5 x5 s4 h5 ((f3.trans e4).trans (Fr.of e5)) (T.loc s4 H4 H5 (fun a o _ h => e5 a o h) a4) d5
end

/-! ### d.get(k, x) of a written dict -/
def IsKD (K : PySem.W.Frag) (w : World) (a : Addr) : Prop := (a == sysModules) = false ∧ ∃ es n, K.lookup a = some ⟨.type "dict", none, .dict es n, #[]⟩ ∧ PySem.W.KeysLit w.params es.toList
def tKGet2 (K : PySem.W.Frag) (w : World) (td ty tx : TE) : TE := fun σ H Q => td σ H fun x H1 => ∃ a, x = .ref a ∧ IsKD K w a ∧ ty σ H1 fun y H2 => tx σ H2 fun z H3 => ∃ s o, y = .str s ∧ PySem.W.nsIn K a s = some o ∧
  ((∃ u v, o = some u ∧ RelV v u ∧ Q v H3) ∨ (o = none ∧ Q z H3))
theorem pe_kget2 {X : Cx} {o e f : Expr} {apos cpos : Pos} {td ty tx : TE} (ho : PE X o td) (he : PE X e ty) (hf : PE X f tx) (m : M2 X o "get" apos e f cpos) : PE X (.Call (.Attribute o "get" apos) [e, f] [] cpos) (tKGet2 X.K X.w td ty tx) := by
  refine ⟨fun pins s σ H Q I h => ?_⟩
  refine PySem.wpAny_Call_method m.base m.few m.line PySem.F.plainAttrs_dict PySem.F.slot_dict_get PySem.F.type_dict_get (thn (ho.run pins s σ H _ I h) fun u s1 ⟨x, H1, I1, rx, a, ex, ⟨hs, es, n, hl, hk⟩, q1⟩ => ?_)
  subst ex
  obtain rfl : u = Value.ref a := rx
  have hm1 := PySem.W.mapOf_K (prog := X.prog) (w := X.w) I1.kIn hl hk
  refine ⟨hm1.typeIs, fun b q => ?_, ?_⟩
  · cases q
    exact ⟨_, I1.kIn _ _ hl, rfl⟩
  rw [m.trees]
  refine PySem.Calls.callWith_builtin rfl (PySem.Calls.evalArgs_plain (PySem.Calls.spliced_cons (thn (he.run pins s1 σ H1 _ I1 q1) fun iv s2 ⟨y, H2, I2, ry, q2⟩ =>
    PySem.Calls.spliced_cons (thn (hf.run pins s2 σ H2 _ I2 q2) fun fv s3 ⟨z, H3, I3, rz, sx, ov, ey, hn, q3⟩ => PySem.Calls.spliced_nil ?_))))
  subst ey
  obtain ⟨t, rfl⟩ := (show ∃ t, iv = Value.str sx t from ry)
  have hm := PySem.W.mapOf_K (prog := X.prog) (w := X.w) I3.kIn hl hk
  refine PySem.call_meetsIn PySem.F.slot_dict_get hm.typeIs PySem.F.entry_dict_get (PySem.F.args_dict_get_3 _ _ _) (PySem.meets_dict_get_default (PySem.strKind X.prog X.w) a (PySem.strKind_is X.prog X.w sx t) hs fv) ⟨_, hm, ?_⟩
  rw [PySem.W.find_K hl hn]
  rcases q3 with ⟨u, v, rfl, ru, q3⟩ | ⟨rfl, q3⟩
  · exact ⟨v, H3, I3.tok _, ru, q3⟩
  · exact ⟨z, H3, I3.tok _, rz, q3⟩
/-- a written dict of ints by texts: what it holds -/
structure KTab (K : PySem.W.Frag) (w : World) (a : Addr) (f : Str → Option Int) (D : Str → Prop) : Prop where
  is : IsKD K w a
  yes : ∀ s i, D s → f s = some i → ∃ t, PySem.W.nsIn K a s = some (some (.int i t))
  no : ∀ s, D s → f s = none → PySem.W.nsIn K a s = some none
section
variable {T : Sto} {s : T.S} {ρ : DEnv} {Φ : PyData → T.S → Prop} {ty tx : TE} {K : PySem.W.Frag} {w : World} {a : Addr} {f : Str → Option Int} {D : Str → Prop}
theorem wp_kget2 (kt : KTab K w a f D) (h : WE T ty s ρ fun y s1 => WE T tx s1 ρ fun z s2 => ∃ x j, y = .str x ∧ D x ∧ z = .int j ∧ Φ (.int ((f x).getD j)) s2) : WE T (tKGet2 K w (tC (.ref a)) ty tx) s ρ Φ := fun A0 H0 B σ H c Q k =>
  ⟨a, rfl, kt.is, h A0 H0 B σ H c _ fun v H1 y s1 h1 e1 a1 d1 => h1 A0 H0 B σ H1 (c.step e1 a1) _ fun u H2 z s2 ⟨x, j, ey, hx, ez, q⟩ e2 a2 d2 => by
    subst ey ez
    cases d1
    cases d2
    cases e : f x with
    | none =>
      rw [e] at q
      exact ⟨x, none, rfl, kt.no x hx e, .inr ⟨rfl, k _ H2 _ s2 q (e1.trans e2) a2 (.int _)⟩⟩
    | some i =>
      rw [e] at q
      obtain ⟨t, ht⟩ := kt.yes x i hx e
      exact ⟨x, _, rfl, ht, .inl ⟨_, .int i, rfl, ⟨t, rfl⟩, k _ H2 _ s2 q (e1.trans e2) a2 (.int _)⟩⟩⟩
end

theorem pe_globI {X : Cx} {x : Str} {n : Int} {pos : Pos} (hg : Gl X x) (hm : ∃ t, X.mg x = some (.int n t)) (hd : (x == ("__debug__" : Str)) = false := by decide) : PE X (.Name x pos) (tC (.int n)) := by
  obtain ⟨t, h⟩ := hm
  exact pe_glob hg h ⟨t, rfl⟩ hd
theorem pe_globS {X : Cx} {x : Str} {n : Str} {pos : Pos} (hg : Gl X x) (hm : ∃ t, X.mg x = some (.str n t)) (hd : (x == ("__debug__" : Str)) = false := by decide) : PE X (.Name x pos) (tC (.str n)) := by
  obtain ⟨t, h⟩ := hm
  exact pe_glob hg h ⟨t, rfl⟩ hd
theorem cal_zero {P : Program} {w : World} {K : PySem.W.Frag} {mg : Str → Option Value} {base : Heap} {k : Nat} {x : Str} {ps : List Str} {sp : Sp} {f : Addr} {fd : FuncData} (kp : PySem.W.keepIn K (.ref f) = true) (m : mg x = some (.ref f)) (B : Binds K fd ps []) (z : ∀ vs H Q E, ¬ sp vs H Q E) :
    Cal P w K mg base k x ps sp := ⟨f, fd, m, kp, B, ⟨fun vs H Q E h => absurd h (z vs H Q E), fun A outer s H args us vs Q E _ _ _ _ h => absurd h (z vs H Q E)⟩⟩
theorem zeroD {Pr : Pre} (h : ∀ ds Ψ, ¬ Pr ds Ψ) : ∀ vs H Q E, ¬ spD Pr vs H Q E := fun vs H Q E ⟨_, ds, Ψ, _, _, p, _⟩ => h ds Ψ p
theorem zeroB {Pr : Pre} (h : ∀ ds Ψ, ¬ Pr ds Ψ) : ∀ vs H Q E, ¬ spB Pr vs H Q E := fun vs H Q E ⟨_, _, _, _, ds, Ψ, _, _, _, _, _, _, p, _⟩ => h ds Ψ p
/-- a def that is handed the box -/
def initB (b : Addr) (N : List Str) (ds : List PyData) : DEnv := some (.v (.ref b)) :: init N.tail ds
theorem cxt_startB {N : List Str} {x : Str} {vs : List V} {ds : List PyData} {B : Addr → Prop} {H : Hp} {b l : Addr} (dm : ∀ a, B a → H a ≠ none) (d : DDs (cut B H) vs ds) (hb : B b) (hl : B l) (ha : BoxAt b l H) :
    Cxt (bxS b l) B H B (L2.start (x :: N) (.ref b :: vs)) H () (initB b (x :: N) ds) := by
  have c := cxt_start (N := N) dm d
  have e : L2.start (x :: N) (.ref b :: vs) = some (.ref b) :: L2.start N vs := by
    unfold L2.start
    simp only [List.map_cons, List.cons_append, List.length_cons, Nat.add_sub_add_right]
  rw [e]
  unfold initB
  refine ⟨fun a z => z.elim (fun z => by rw [z]; exact hb) fun z => (by rw [z]; exact hl), dm, ha, by rw [List.length_cons, List.length_cons, List.tail_cons]; exact congrArg (· + 1) c.ln, fun i w q => ?_, Fr.refl, fun a z => z, dm, fun a z => .inl z, fun i j xs ys p h1 _ => ?_⟩
  · cases i with
    | zero =>
      cases q
      rfl
    | succ i =>
      obtain ⟨x, h1, rfl⟩ := init_get (N := N) (by simpa using q)
      obtain ⟨v, h2, h3⟩ := d.get h1
      exact ⟨v, by rw [List.getElem?_cons_succ, start_get h2]; rfl, h3⟩
  · cases i with
    | zero => cases h1
    | succ i =>
      obtain ⟨x, _, h⟩ := init_get (N := N) (by simpa using h1)
      cases h
theorem fnB {P : Program} {w : World} {K : PySem.W.Frag} {mg : Str → Option Value} {base : Heap} {x qual : Str} {st : Stmt} {f : Addr} {fd : FuncData} {N ps : List Str} {y : Str} {k : Nat} {Pr : Pre} {t : TS} (F : Fun K x qual st f fd) (S : FnScope (y :: N) ps (defScope st))
    (len : ∀ ds Ψ, Pr ds Ψ → ds.length + 1 = ps.length)
    (hb : ∀ (cdv : Value) (A : Around) (outer : List PySem.Env) (s : Shared) (H : Hp) (E : XK), Room k (A.deeper (PyProof.Rows.envOfC qual (defScope st) s.heap.objs.size f cdv)) → PSs (cxOf CX0 P w K mg base (y :: N) qual (defScope st) f cdv A outer s H E).nox (defBody st) t)
    (hw : ∀ b l ds Ψ, Pr ds Ψ → WS (bxS b l) t () (initB b (y :: N) ds) (fun x _ => Ψ x) (fun _ _ => Ψ .none)) : FnOk P w K mg base CX0 (k + 1) f fd ps (spB Pr) := by
  refine F.ok S (fun vs H Q E h => ?_) (fun cdv A outer s H vs Q E hr h => ?_)
  · obtain ⟨b, l, us, B, ds, Ψ, rfl, _, _, _, _, d, p, _⟩ := h
    rw [List.length_cons, d.len]
    exact len ds Ψ p
  · obtain ⟨b, l, us, B, ds, Ψ, rfl, hb1, hl1, ha, dm, d, p, q⟩ := h
    refine ⟨t, hb cdv A outer s H E hr, ?_⟩
    refine hw b l ds Ψ p B H B _ H (cxt_startB dm d hb1 hl1 ha) _ (fun v H' y s' hy e a d' => q v H' y hy e a d') fun B' σ' H' s' ρ' hn c => q .non H' .none hn c.fr c.at_ .non
end J

namespace J
open PySem L2
/-! ### conditions -/
inductive Cn where
  | look (i : Int)
  | nt (c : Cn)
  | pr (b : Bool) (x y : Cn)
abbrev wLook : Str := "look"
abbrev wNot : Str := "not"
abbrev wAnd : Str := "and"
abbrev wOr : Str := "or"
def Cn.D : Cn → PyData
  | .look i => .tuple [.str wLook, .int i]
  | .nt c => .tuple [.str wNot, c.D]
  | .pr true x y => .tuple [.str wAnd, x.D, y.D]
  | .pr false x y => .tuple [.str wOr, x.D, y.D]
def Cn.deep : Cn → Nat
  | .look _ => 0
  | .nt c => c.deep + 1
  | .pr _ x y => max x.deep y.deep + 1
def Cn.looks : Cn → Nat
  | .look _ => 1
  | .nt c => c.looks
  | .pr _ x y => x.looks + y.looks
def Cn.pairs : Cn → Nat
  | .look _ => 0
  | .nt c => c.pairs
  | .pr _ x y => x.pairs + y.pairs + 1
/-- all things are numbers from 0 to 7 -/
def Cn.ok : Cn → Prop
  | .look i => 0 ≤ i ∧ i < 8
  | .nt c => c.ok
  | .pr _ x y => x.ok ∧ y.ok
theorem Cn.looks_pos : ∀ c : Cn, 0 < c.looks
  | .look _ => Nat.one_pos
  | .nt c => c.looks_pos
  | .pr _ x y => Nat.add_pos_left x.looks_pos _
/-! words -/
theorem ne_nl : (wNot == wLook) = false := by decide +kernel
theorem ne_al : (wAnd == wLook) = false := by decide +kernel
theorem ne_ol : (wOr == wLook) = false := by decide +kernel
theorem ne_an : (wAnd == wNot) = false := by decide +kernel
theorem ne_on : (wOr == wNot) = false := by decide +kernel
theorem ne_oa : (wOr == wAnd) = false := by decide +kernel
theorem ne_ao : (wAnd == wOr) = false := by decide +kernel
theorem ne_ln : (wLook == wNot) = false := by decide +kernel
theorem ne_la : (wLook == wAnd) = false := by decide +kernel
theorem ne_lo : (wLook == wOr) = false := by decide +kernel
theorem ne_na : (wNot == wAnd) = false := by decide +kernel
theorem ne_no : (wNot == wOr) = false := by decide +kernel
def wOf : Bool → Str
  | true => wAnd
  | false => wOr
theorem D_pr (b : Bool) (x y : Cn) : (Cn.pr b x y).D = .tuple [.str (wOf b), x.D, y.D] := by cases b <;> rfl
theorem wOf_nl (b : Bool) : (wOf b == wLook) = false := by cases b <;> decide +kernel
theorem wOf_nn (b : Bool) : (wOf b == wNot) = false := by cases b <;> decide +kernel
theorem wOf_and (b : Bool) : (wOf b == wAnd) = b := by cases b <;> decide +kernel
theorem wOf_or (b : Bool) : (wOf b == wOr) = !b := by cases b <;> decide +kernel
theorem wOf_so (b : Bool) : PyData.strOk (wOf b) = true := by cases b <;> decide +kernel
/-! ### depth of data -/
theorem shaped_of {d : PyData} (h1 : d.canLay0 = true) (h2 : d.depth ≤ 64) : SeqAt.shaped d = true := by
  unfold SeqAt.shaped
  rw [h1, decide_eq_true h2]
  rfl
theorem so_l : PyData.strOk wLook = true := by decide +kernel
theorem so_n : PyData.strOk wNot = true := by decide +kernel
theorem so_a : PyData.strOk wAnd = true := by decide +kernel
theorem so_o : PyData.strOk wOr = true := by decide +kernel
theorem Cn.lay : ∀ c : Cn, c.D.canLay0 = true
  | .look _ => by simp [Cn.D, PyData.canLay0, PyData.canLayAll0, so_l]
  | .nt c => by simp [Cn.D, PyData.canLay0, PyData.canLayAll0, c.lay, so_n]
  | .pr true x y => by simp [Cn.D, PyData.canLay0, PyData.canLayAll0, x.lay, y.lay, so_a]
  | .pr false x y => by simp [Cn.D, PyData.canLay0, PyData.canLayAll0, x.lay, y.lay, so_o]
theorem Cn.depth_le : ∀ c : Cn, c.D.depth ≤ c.deep + 2
  | .look _ => by simp [Cn.D, PyData.depth, PyData.depthAll]
  | .nt c => by have := c.depth_le; simp [Cn.D, PyData.depth, PyData.depthAll, Cn.deep]; omega
  | .pr true x y => by have := x.depth_le; have := y.depth_le; simp [Cn.D, PyData.depth, PyData.depthAll, Cn.deep]; omega
  | .pr false x y => by have := x.depth_le; have := y.depth_le; simp [Cn.D, PyData.depth, PyData.depthAll, Cn.deep]; omega
theorem Cn.shaped {c : Cn} (h : c.deep ≤ 60) : SeqAt.shaped c.D = true := shaped_of c.lay (by have := c.depth_le; omega)

/-! ### comprehensions whose elements are a function of the items -/
section
variable {T : Sto} {s : T.S} {ρ : DEnv} {te tl : TE} {tt : TT} {K : PySem.W.Frag} {vs : List Nat} {Φ : PyData → T.S → Prop} {g : TG}
theorem take_snoc {α : Type} {l : List α} {i : Nat} {x : α} (h : l[i]? = some x) : l.take (i + 1) = l.take i ++ [x] := by
  rw [List.take_add_one, h]
  rfl
/-- what one item gives: whether it is taken, and as what -/
def LcF (T : Sto) (g : TG) (tt : TT) (te : TE) (vs : List Nat) (ρ : DEnv) (s : T.S) (p : PyData → Bool) (f : PyData → PyData) (d : PyData) : Prop :=
  WG T g d s (wipeE ρ vs) fun ρ2 s2 => WT T tt s2 ρ2 fun b s3 => b = p d ∧ s3 = s ∧ (b = true → WE T te s3 ρ2 fun y s4 => y = f d ∧ s4 = s)
theorem lc_of_F {ds : List PyData} {p : PyData → Bool} {f : PyData → PyData} (hl : ds.length < 100000) (h : ∀ d ∈ ds, LcF T g tt te vs ρ s p f d) : ∀ (i : Nat) d acc s', ds[i]? = some d → (acc = ((ds.take i).filter p).map f ∧ s' = s) →
    LcT T g tt te vs ρ d acc s' fun acc s' => acc = ((ds.take (i + 1)).filter p).map f ∧ s' = s := fun i d acc s' hi ⟨e, e'⟩ => by
  subst e'
  have hm : d ∈ ds := List.mem_of_getElem? hi
  have hlen : acc.length < 100000 := by
    rw [e, List.length_map]
    have h1 := List.length_filter_le p (ds.take i)
    have h2 : (ds.take i).length ≤ ds.length := by rw [List.length_take]; omega
    omega
  intro A0 H0 B σ H c v hv Q k
  refine h d hm A0 H0 B σ H c v hv Q fun σ' ρ' hw c' => k σ' ρ' ?_ c'
  intro A0 H0 B σ H c Q k
  refine hw A0 H0 B σ H c Q fun b H' s3 ⟨hb, hs, he⟩ e1 a1 => k b H' s3 ?_ e1 a1
  rw [take_snoc hi, List.filter_append, List.map_append, ← e]
  cases b with
  | false =>
    show acc = acc ++ List.map f (List.filter p [d]) ∧ s3 = s'
    refine ⟨?_, hs⟩
    rw [List.filter_cons, if_neg (by rw [← hb]; decide)]
    show acc = acc ++ []
    rw [List.append_nil]
  | true =>
    show WE T te s3 ρ' _
    refine WE.mono (he rfl) fun y s4 ⟨ey, es⟩ => ⟨hlen, ?_, es⟩
    rw [List.filter_cons, if_pos hb.symm, ey]
    rfl
theorem wp_lcF_list (gi : GIn g vs) (h : WE T tl s ρ fun x s1 => ∃ ds, x = .list ds ∧ ds.length < 100000 ∧ ∃ p f, (∀ d ∈ ds, LcF T g tt te vs ρ s1 p f d) ∧ Φ (.list ((ds.filter p).map f)) s1) : WE T (tLc (iSeq K tl) g tt te vs) s ρ Φ :=
  wp_lc_list gi (WE.mono h fun x s1 ⟨ds, e, hl, p, f, hs, q⟩ => ⟨ds, e, fun i acc s' => acc = ((ds.take i).filter p).map f ∧ s' = s1, ⟨rfl, rfl⟩, lc_of_F hl hs, fun acc s' ⟨e1, e2⟩ => by rw [e1, e2, List.take_length]; exact q⟩)
theorem wp_lcF_tup (gi : GIn g vs) (h : WE T tl s ρ fun x s1 => ∃ ds, x = .tuple ds ∧ ds.length < 100000 ∧ ∃ p f, (∀ d ∈ ds, LcF T g tt te vs ρ s1 p f d) ∧ Φ (.list ((ds.filter p).map f)) s1) : WE T (tLc (iSeq K tl) g tt te vs) s ρ Φ :=
  wp_lc_tup gi (WE.mono h fun x s1 ⟨ds, e, hl, p, f, hs, q⟩ => ⟨ds, e, fun i acc s' => acc = ((ds.take i).filter p).map f ∧ s' = s1, ⟨rfl, rfl⟩, lc_of_F hl hs, fun acc s' ⟨e1, e2⟩ => by rw [e1, e2, List.take_length]; exact q⟩)
/-- every item is taken -/
theorem lcF_all {f : PyData → PyData} {d : PyData} (h : WG T g d s (wipeE ρ vs) fun ρ2 s2 => s2 = s ∧ WE T te s2 ρ2 fun y s4 => y = f d ∧ s4 = s) : LcF T g tYes te vs ρ s (fun _ => true) f d := by
  intro A0 H0 B σ H c v hv Q k
  refine h A0 H0 B σ H c v hv Q fun σ' ρ' hw c' => k σ' ρ' ?_ c'
  exact wt_yes ⟨rfl, hw.1, fun _ => hw.2⟩
theorem filter_true {α : Type} (l : List α) : l.filter (fun _ => true) = l := List.filter_eq_self.mpr fun _ _ => rfl
theorem wp_lcM_list (gi : GIn g vs) (h : WE T tl s ρ fun x s1 => ∃ ds, x = .list ds ∧ ds.length < 100000 ∧ ∃ f, (∀ d ∈ ds, WG T g d s1 (wipeE ρ vs) fun ρ2 s2 => s2 = s1 ∧ WE T te s2 ρ2 fun y s4 => y = f d ∧ s4 = s1) ∧ Φ (.list (ds.map f)) s1) : WE T (tLc (iSeq K tl) g tYes te vs) s ρ Φ :=
  wp_lcF_list gi (WE.mono h fun x s1 ⟨ds, e, hl, f, hs, q⟩ => ⟨ds, e, hl, fun _ => true, f, fun d hd => lcF_all (hs d hd), by rw [filter_true]; exact q⟩)
theorem wp_lcM_tup (gi : GIn g vs) (h : WE T tl s ρ fun x s1 => ∃ ds, x = .tuple ds ∧ ds.length < 100000 ∧ ∃ f, (∀ d ∈ ds, WG T g d s1 (wipeE ρ vs) fun ρ2 s2 => s2 = s1 ∧ WE T te s2 ρ2 fun y s4 => y = f d ∧ s4 = s1) ∧ Φ (.list (ds.map f)) s1) : WE T (tLc (iSeq K tl) g tYes te vs) s ρ Φ :=
  wp_lcF_tup gi (WE.mono h fun x s1 ⟨ds, e, hl, f, hs, q⟩ => ⟨ds, e, hl, fun _ => true, f, fun d hd => lcF_all (hs d hd), by rw [filter_true]; exact q⟩)
theorem wp_lcM_range {ta : TA} (gi : GIn g vs) (h : WA T ta s ρ fun xs s1 => ∃ n : Nat, xs = [.int (n : Int)] ∧ n ≤ 10000 ∧ ∃ f : Nat → PyData, (∀ i, i < n → WG T g (.int (i : Int)) s1 (wipeE ρ vs) fun ρ2 s2 => s2 = s1 ∧ WE T te s2 ρ2 fun y s4 => y = f i ∧ s4 = s1) ∧ Φ (.list ((List.range n).map f)) s1) :
    WE T (tLc (iRng1 ta) g tYes te vs) s ρ Φ := wp_lc_range gi fun A0 H0 B σ H c Q k => h A0 H0 B σ H c Q fun us H' xs s1 ⟨n, e, hn, f, hs, q⟩ => k us H' xs s1 ⟨(n : Int), e, by omega, by omega, fun i acc s' => acc = (List.range i).map f ∧ s' = s1, ⟨rfl, rfl⟩, fun i acc s' hi ⟨e1, e2⟩ => by
      subst e2
      have hlen : acc.length < 100000 := by rw [e1, List.length_map, List.length_range]; omega
      intro A0 H0 B σ H c v hv Q k
      refine hs i (by omega) A0 H0 B σ H c v hv Q fun σ' ρ' hw c' => k σ' ρ' ?_ c'
      refine wt_yes ?_
      show WE T te s' ρ' _
      obtain ⟨_, hw⟩ := hw
      refine WE.mono hw fun y s4 ⟨ey, es⟩ => ⟨hlen, ?_, es⟩
      rw [List.range_succ, List.map_append, e1, ey]
      rfl, fun acc s' ⟨e1, e2⟩ => by
      rw [e1, e2]
      exact q⟩
end
section
variable {T : Sto} {s : T.S} {ρ : DEnv} {te tl : TE} {tt : TT} {K : PySem.W.Frag} {vs : List Nat} {Φ : PyData → T.S → Prop} {g : TG}
theorem wp_lcF_range {ta : TA} (gi : GIn g vs) (h : WA T ta s ρ fun xs s1 => ∃ n : Nat, xs = [.int (n : Int)] ∧ n ≤ 10000 ∧ ∃ (p : PyData → Bool) (f : PyData → PyData), (∀ i : Nat, i < n → LcF T g tt te vs ρ s1 p f (.int (i : Int))) ∧ Φ (.list ((((List.range n).map fun i : Nat => PyData.int (i : Int)).filter p).map f)) s1) :
    WE T (tLc (iRng1 ta) g tt te vs) s ρ Φ := wp_lc_range gi fun A0 H0 B σ H c Q k => h A0 H0 B σ H c Q fun us H' xs s1 ⟨n, e, hn, p, f, hs, q⟩ => k us H' xs s1 ⟨(n : Int), e, by omega, by omega, fun i acc s' => i ≤ n ∧ (acc = ((((List.range n).map fun i : Nat => PyData.int (i : Int)).take i).filter p).map f ∧ s' = s1), ⟨Nat.zero_le _, rfl, rfl⟩, fun i acc s' hi ⟨_, e1⟩ => by
      have hi' : i < n := by omega
      have hget : ((List.range n).map fun i : Nat => PyData.int (i : Int))[i]? = some (.int (i : Int)) := by
        rw [List.getElem?_map, List.getElem?_range hi']
        rfl
      have t := lc_of_F (T := T) (g := g) (tt := tt) (te := te) (vs := vs) (ρ := ρ) (s := s1) (p := p) (f := f) (ds := (List.range n).map fun i : Nat => PyData.int (i : Int)) (by rw [List.length_map, List.length_range]; omega) (fun d hd => by
        obtain ⟨j, hj, rfl⟩ := List.mem_map.mp hd
        exact hs j (List.mem_range.mp hj)) i _ acc s' hget e1
      have hlen : i + 1 ≤ n := hi'
      intro A0 H0 B σ H c v hv Q k
      refine t A0 H0 B σ H c v hv Q fun σ' ρ' hw c' => k σ' ρ' ?_ c'
      intro A0 H0 B σ H c Q k
      refine hw A0 H0 B σ H c Q fun b H' s3 hb e1 a1 => k b H' s3 ?_ e1 a1
      cases b with
      | false => exact ⟨hlen, hb⟩
      | true => exact WE.mono (show WE T te s3 ρ' _ from hb) fun y s4 ⟨q1, q2⟩ => ⟨q1, hlen, q2⟩, fun acc s' ⟨_, e1, e2⟩ => by
      have hl : ((n : Int).toNat) = n := by omega
      have e3 : (((List.range n).map fun i : Nat => PyData.int (i : Int)).take (n : Int).toNat) = (List.range n).map fun i : Nat => PyData.int (i : Int) := by
        rw [hl]
        exact List.take_of_length_le (by rw [List.length_map, List.length_range]; exact Nat.le_refl _)
      rw [e3] at e1
      rw [e1, e2]
      exact q⟩
end
/-! ### comprehensions item by item -/
section
variable {T : Sto} {s : T.S} {ρ : DEnv} {te tl : TE} {tt : TT} {K : PySem.W.Frag} {vs : List Nat} {Φ : PyData → T.S → Prop} {g : TG}
def LcS (T : Sto) (g : TG) (tt : TT) (te : TE) (vs : List Nat) (ρ : DEnv) (Φ : PyData → T.S → Prop) : List PyData → List PyData → T.S → Prop
  | [], acc, s => Φ (.list acc) s
  | d :: ds, acc, s => acc.length < 100000 ∧ WG T g d s (wipeE ρ vs) fun ρ2 s2 => WT T tt s2 ρ2 fun b s3 => if b = true then WE T te s3 ρ2 fun y s4 => LcS T g tt te vs ρ Φ ds (acc ++ [y]) s4 else LcS T g tt te vs ρ Φ ds acc s3
theorem lcs_nil {acc : List PyData} (q : Φ (.list acc) s) : LcS T g tt te vs ρ Φ [] acc s := q
theorem lcs_cons {d : PyData} {ds acc : List PyData} (h1 : acc.length < 100000) (h : WG T g d s (wipeE ρ vs) fun ρ2 s2 => WT T tt s2 ρ2 fun b s3 => if b = true then WE T te s3 ρ2 fun y s4 => LcS T g tt te vs ρ Φ ds (acc ++ [y]) s4 else LcS T g tt te vs ρ Φ ds acc s3) :
    LcS T g tt te vs ρ Φ (d :: ds) acc s := ⟨h1, h⟩
theorem lcs_turn {ds : List PyData} : ∀ (i : Nat) d acc s', ds[i]? = some d → LcS T g tt te vs ρ Φ (ds.drop i) acc s' → LcT T g tt te vs ρ d acc s' (LcS T g tt te vs ρ Φ (ds.drop (i + 1))) := fun i d acc s' hi h => by
  have hl := (List.getElem?_eq_some_iff.mp hi).1
  rw [List.drop_eq_getElem_cons hl] at h
  have e : ds[i] = d := (List.getElem?_eq_some_iff.mp hi).2
  rw [e] at h
  obtain ⟨h1, h2⟩ := h
  intro A0 H0 B σ H c v hv Q k
  refine h2 A0 H0 B σ H c v hv Q fun σ' ρ' hw c' => k σ' ρ' ?_ c'
  intro A0 H0 B σ H c Q k
  refine hw A0 H0 B σ H c Q fun b H' s3 hb e1 a1 => k b H' s3 ?_ e1 a1
  cases b with
  | false => exact hb
  | true => exact WE.mono (show WE T te s3 ρ' _ from hb) fun y s4 q => ⟨h1, q⟩
theorem wp_lcS_tup (gi : GIn g vs) (h : WE T tl s ρ fun x s1 => ∃ ds, x = .tuple ds ∧ LcS T g tt te vs ρ Φ ds [] s1) : WE T (tLc (iSeq K tl) g tt te vs) s ρ Φ :=
  wp_lc_tup gi (WE.mono h fun x s1 ⟨ds, e, q⟩ => ⟨ds, e, fun i acc s => LcS T g tt te vs ρ Φ (ds.drop i) acc s, q, lcs_turn, fun acc s' q => by
    have q' : LcS T g tt te vs ρ Φ (ds.drop ds.length) acc s' := q
    rw [List.drop_length] at q'
    exact q'⟩)
theorem wp_lcS_list (gi : GIn g vs) (h : WE T tl s ρ fun x s1 => ∃ ds, x = .list ds ∧ LcS T g tt te vs ρ Φ ds [] s1) : WE T (tLc (iSeq K tl) g tt te vs) s ρ Φ :=
  wp_lc_list gi (WE.mono h fun x s1 ⟨ds, e, q⟩ => ⟨ds, e, fun i acc s => LcS T g tt te vs ρ Φ (ds.drop i) acc s, q, lcs_turn, fun acc s' q => by
    have q' : LcS T g tt te vs ρ Φ (ds.drop ds.length) acc s' := q
    rw [List.drop_length] at q'
    exact q'⟩)
end
theorem cutD_tail {d : PyData} {ds : List PyData} : cutD (d :: ds) (some 1) none = ds := by
  have e : HT.sIx (d :: ds).length 0 (some 1) = 1 := by
    have h := HT.sIx_nat (d :: ds).length 0 1
    have h2 : min 1 (d :: ds).length = 1 := by rw [List.length_cons]; omega
    rw [h2] at h
    exact h
  unfold cutD
  rw [e, HT.sIx_none]
  show List.take (ds.length + 1 - 1) ds = ds
  rw [Nat.add_sub_cancel, List.take_length]
theorem rs_tail {K : PySem.W.Frag} {Φ : PyData → Prop} {d : PyData} {ds : List PyData} (q : Φ (.tuple ds)) : RS (rSlU K) (.tuple (d :: ds)) (some 1) none Φ := rs_tup (by rw [cutD_tail]; exact q)
/-! ### texts told apart -/
section
variable {K : PySem.W.Frag} {Φ : PyData → Prop}
theorem shaped_str {a : Str} (h : PyData.strOk a = true) : SeqAt.shaped (.str a) = true := shaped_of (by simpa [PyData.canLay0] using h) (by simp [PyData.depth])
theorem rd_eqW {a b : Str} (ha : PyData.strOk a = true) (hb : PyData.strOk b = true) (q : Φ (.bool (a == b))) : RD (rEqD K) (.str a) (.str b) Φ := rd_eq (shaped_str ha) (shaped_str hb) q
theorem rd_neW {a b : Str} (ha : PyData.strOk a = true) (hb : PyData.strOk b = true) (q : Φ (.bool (!(a == b)))) : RD (rNeD K) (.str a) (.str b) Φ := rd_ne (shaped_str ha) (shaped_str hb) q
theorem rd_eqI {i j : Int} (q : Φ (.bool (decide (i = j)))) : RD (rEqD K) (.int i) (.int j) Φ := rd_eq rfl rfl (by
  show Φ (.bool (i == j))
  rw [show (i == j) = decide (i = j) from by rw [Bool.eq_iff_iff]; simp]
  exact q)
theorem rd_neI {i j : Int} (q : Φ (.bool (!decide (i = j)))) : RD (rNeD K) (.int i) (.int j) Φ := rd_ne rfl rfl (by
  show Φ (.bool (!(i == j)))
  rw [show (i == j) = decide (i = j) from by rw [Bool.eq_iff_iff]; simp]
  exact q)
theorem rd_neB {i j : Bool} (q : Φ (.bool (!(i == j)))) : RD (rNeD K) (.bool i) (.bool j) Φ := rd_ne (by cases i <;> rfl) (by cases j <;> rfl) q
theorem rd_eqB {i j : Bool} (q : Φ (.bool (i == j))) : RD (rEqD K) (.bool i) (.bool j) Φ := rd_eq (by cases i <;> rfl) (by cases j <;> rfl) q
end
theorem ifT {c : Bool} {A B : Prop} (h : c = true) (q : A) : if c = true then A else B := by rw [if_pos h]; exact q
theorem ifF {c : Bool} {A B : Prop} (h : c = false) (q : B) : if c = true then A else B := by rw [if_neg (by rw [h]; decide)]; exact q
theorem ifD {P : Prop} [Decidable P] {A B : Prop} (h1 : P → A) (h2 : ¬ P → B) : if decide P = true then A else B := by
  by_cases h : P
  · rw [if_pos (decide_eq_true h)]; exact h1 h
  · rw [if_neg (by rw [decide_eq_false h]; decide)]; exact h2 h
theorem ifND {P : Prop} [Decidable P] {A B : Prop} (h1 : ¬ P → A) (h2 : P → B) : if (!decide P) = true then A else B := by
  by_cases h : P
  · rw [if_neg (by rw [decide_eq_true h]; decide)]; exact h2 h
  · rw [if_pos (by rw [decide_eq_false h]; decide)]; exact h1 h
end J

namespace J
open PySem L2
/-! ### what conditions come to -/
def thingAt (ws : List Int) (i : Int) : Int := (ws[i.toNat]?).getD 0
/-- what ends an and, an or by its first side -/
def stops : Bool → Int
  | true => 0
  | false => 1
def Cn.val (ws : List Int) : Cn → Int
  | .look i => thingAt ws i
  | .nt c => 1 - c.val ws
  | .pr b x y => if x.val ws = stops b then x.val ws else y.val ws
def Cn.seen (ws : List Int) : Cn → List Int
  | .look i => [i]
  | .nt c => c.seen ws
  | .pr b x y => if x.val ws = stops b then x.seen ws else x.seen ws ++ y.seen ws
/-- eight worths -/
structure Ws (ws : List Int) : Prop where
  len : ws.length = 8
  bit : ∀ w ∈ ws, w = 0 ∨ w = 1
theorem Ws.at_ {ws : List Int} (h : Ws ws) {i : Int} (h0 : 0 ≤ i) (h1 : i < 8) : atI (ws.map PyData.int) i = some (.int (thingAt ws i)) ∧ (thingAt ws i = 0 ∨ thingAt ws i = 1) := by
  have hl : i.toNat < ws.length := by rw [h.len]; omega
  have e : ws[i.toNat]? = some ws[i.toNat] := List.getElem?_eq_getElem hl
  have e2 : thingAt ws i = ws[i.toNat] := by unfold thingAt; rw [e]; rfl
  refine ⟨?_, by rw [e2]; exact h.bit _ (List.getElem_mem hl)⟩
  have q : atI (ws.map PyData.int) ((i.toNat : Nat) : Int) = some (.int ws[i.toNat]) := atI_nat (by rw [List.getElem?_map, e]; rfl)
  rw [show ((i.toNat : Nat) : Int) = i from by omega] at q
  rw [q, e2]
theorem Cn.pr_stop {ws : List Int} {b : Bool} {x y : Cn} (h : x.val ws = stops b) : (Cn.pr b x y).val ws = x.val ws ∧ (Cn.pr b x y).seen ws = x.seen ws := by
  refine ⟨?_, ?_⟩
  · show (if x.val ws = stops b then x.val ws else y.val ws) = _
    rw [if_pos h]
  · show (if x.val ws = stops b then x.seen ws else x.seen ws ++ y.seen ws) = _
    rw [if_pos h]
theorem Cn.pr_go {ws : List Int} {b : Bool} {x y : Cn} (h : ¬ x.val ws = stops b) : (Cn.pr b x y).val ws = y.val ws ∧ (Cn.pr b x y).seen ws = x.seen ws ++ y.seen ws := by
  refine ⟨?_, ?_⟩
  · show (if x.val ws = stops b then x.val ws else y.val ws) = _
    rw [if_neg h]
  · show (if x.val ws = stops b then x.seen ws else x.seen ws ++ y.seen ws) = _
    rw [if_neg h]
theorem Cn.val_bit {ws : List Int} (h : Ws ws) : ∀ c : Cn, c.ok → c.val ws = 0 ∨ c.val ws = 1
  | .look i, ok => (h.at_ ok.1 ok.2).2
  | .nt c, ok => by
    have := c.val_bit h ok
    show 1 - c.val ws = 0 ∨ 1 - c.val ws = 1
    omega
  | .pr b x y, ok => by
    have h1 := x.val_bit h ok.1
    have h2 := y.val_bit h ok.2
    show (if x.val ws = stops b then x.val ws else y.val ws) = 0 ∨ (if x.val ws = stops b then x.val ws else y.val ws) = 1
    split
    · exact h1
    · exact h2
theorem Cn.seen_len (ws : List Int) : ∀ c : Cn, (c.seen ws).length ≤ c.looks
  | .look i => Nat.le_refl _
  | .nt c => c.seen_len ws
  | .pr b x y => by
    have h1 := x.seen_len ws
    have h2 := y.seen_len ws
    show (if x.val ws = stops b then x.seen ws else x.seen ws ++ y.seen ws).length ≤ x.looks + y.looks
    split
    · omega
    · rw [List.length_append]; omega

/-! ### a def that is handed a list of ints, last, and grows it -/
@[reducible] def lS (p : Addr) : Sto := ⟨List Int, fun a => a = p, fun ns H => H p = some (.lst (ns.map V.int)), fun _ H H' e h => e p _ rfl h, fun _ H a h f => by rw [f, h]; exact fun z => nomatch z⟩
abbrev PreG := List PyData → List Int → (PyData → List Int → Prop) → Prop
def spG (P : PreG) : Sp := fun vs H Q _ => ∃ (p : Addr) (us : List V) (B : Addr → Prop) (ds : List PyData) (ns : List Int) (Ψ : PyData → List Int → Prop), vs = us ++ [.ref p] ∧ B p ∧ H p = some (.lst (ns.map V.int)) ∧ (∀ a, B a → H a ≠ none) ∧ DDs (cut B H) us ds ∧ P ds ns Ψ ∧
  ∀ v H' x ns', Ψ x ns' → Fr (fun a => a = p) H H' → H' p = some (.lst (ns'.map V.int)) → DD (cut B H') v x → Q v H'
theorem zeroG {Pr : PreG} (h : ∀ ds ns Ψ, ¬ Pr ds ns Ψ) : ∀ vs H Q E, ¬ spG Pr vs H Q E := fun vs H Q E ⟨_, _, _, ds, ns, Ψ, _, _, _, _, _, p, _⟩ => h ds ns Ψ p
section
variable {p : Addr} {s : List Int} {ρ : DEnv} {R : PyData → List Int → Prop} {N : DEnv → List Int → Prop} {te ta tb : TE} {Φ : PyData → List Int → Prop}
theorem ws_appL {K : PySem.W.Frag} {i : Nat} (hi : ρ[i]? = some (some (.v (.ref p)))) (h : WE (lS p) te s ρ fun x s1 => ∃ n, x = .int n ∧ s1.length < 100000 ∧ N ρ (s1 ++ [n])) : WS (lS p) (tDrop (tBM K "list" rAppend (tVar i) (tCons te tNil))) s ρ R N := fun A0 H0 B σ H c D r n => by
  have hv := join_some (c.sl i _ hi)
  have hH : H p = some (.lst (s.map V.int)) := c.at_
  refine ⟨_, hv, Or.inl ⟨rfl, _, SqL.of hH⟩, h A0 H0 B σ H c _ fun v H1 x s1 ⟨m, ex, hl, f⟩ e a d => ?_⟩
  subst ex
  cases d
  have hp : H1 p = some (.lst (s1.map V.int)) := a
  refine ⟨p, _, .int m, rfl, rfl, hp, Nat.lt_of_lt_of_le (by rw [List.length_map]; exact hl) (by decide), ?_⟩
  have fr : Fr (lS p).F H1 (upd H1 p (.lst (s1.map V.int ++ [.int m]))) := fun b o q z => by rw [upd_ne z]; exact q
  exact n B σ _ (s1 ++ [m]) ρ f ((c.step e a).step fr (by show upd _ _ _ p = _; rw [upd_same, List.map_append]; rfl))
theorem wp_callG {P : PreG} {E : XK} {i : Nat} (hi : ρ[i]? = some (some (.v (.ref p)))) (h : WE (lS p) ta s ρ fun x s1 => WE (lS p) tb s1 ρ fun y s2 => P [x, y] s2 fun z s3 => Φ z s3) : WE (lS p) (tCall (spG P) [] E (tCons ta (tCons tb (tCons (tVar i) tNil)))) s ρ Φ := fun A0 H0 B σ H c Q k =>
  h A0 H0 B σ H c _ fun v H1 x s1 h1 e1 a1 d1 => h1 A0 H0 B σ H1 (c.step e1 a1) _ fun u H2 y s2 h2 e2 a2 d2 =>
    ⟨_, join_some (c.sl i _ hi), ⟨p, [v, u], B, [x, y], s2, _, rfl, c.fb p rfl, a2, ((c.step e1 a1).step e2 a2).dm, .cons (DD.mono (e2.cut c.fb) _ _ d1) (.cons d2 .nil), h2, fun v H' z ns' hz e a d => k v H' z ns' hz ((e1.trans e2).trans e) a d⟩⟩
end
/-- such a call from a def that owns the list -/
theorem ws_callG {T : Sto} {s : T.S} {ρ : DEnv} {R : PyData → T.S → Prop} {N : DEnv → T.S → Prop} {ta tb : TE} {P : PreG} {E : XK} {i j : Nat} {ns : List Int} (hi : ρ[i]? = some (some (.own (ns.map PyData.int)))) (ij : i ≠ j)
    (h : WE T ta s ρ fun x s1 => WE T tb s1 ρ fun y s2 => P [x, y] ns fun z ns' => N ((ρ.set i (some (.own (ns'.map PyData.int)))).set j (some (.d z))) s2) : WS T (tAsg (tCall (spG P) [] E (tCons ta (tCons tb (tCons (tVar i) tNil)))) (gName j)) s ρ R N := fun A0 H0 B σ H c D r n => by
  obtain ⟨p, vs, h1, h2, h3, h5, h6, h7⟩ := c.sl i _ hi
  have hv := join_some h1
  have hvs := h7.of_ints
  subst hvs
  refine h A0 H0 B σ H c _ fun v H1 x s1 g1 e1 a1 d1 => g1 A0 H0 B σ H1 (c.step e1 a1) _ fun u H2 y s2 g2 e2 a2 d2 => ?_
  have c2 := (c.step e1 a1).step e2 a2
  have hp : H2 p = some (.lst (ns.map V.int)) := e2 p _ (e1 p _ h6 h3) h3
  refine ⟨_, hv, ⟨p, [v, u], B, [x, y], ns, _, rfl, h2, hp, c2.dm, .cons (DD.mono (e2.cut c.fb) _ _ d1) (.cons d2 .nil), g2, fun w H' z ns' hz e hp' d => ?_⟩⟩
  have hil : i < ρ.length := (List.getElem?_eq_some_iff.mp hi).1
  have sc : Same (cut B H2) (cut B H') := e.cut fun a z => by rw [z]; exact h2
  have c3 : Cxt T A0 H0 B σ H' s2 (ρ.set i (some (.own (ns'.map PyData.int)))) := by
    have iso : ∀ (k : Nat) ys, (ρ.set i (some (.own (ns'.map PyData.int))))[k]? = some (some (.own ys)) → ∃ zs, ρ[k]? = some (some (.own zs)) := fun k ys q => by
      rw [List.getElem?_set] at q
      by_cases e' : i = k
      · subst e'; exact ⟨_, hi⟩
      · rw [if_neg e'] at q; exact ⟨_, q⟩
    refine ⟨c.fb, fun b z => ?_, T.loc s2 H2 H' (fun b o hb q => e b o q fun z => h3 (by rw [← z]; exact hb)) a2, by rw [List.length_set]; exact c.ln, fun k w q => ?_, fun b o q z => ?_, c.ab, c.d0, c.ba, fun k l ys zs q q1 q2 q3 q4 => ?_⟩
    · by_cases e' : b = p
      · rw [e', hp']; exact fun z => nomatch z
      · cases q : H2 b with
        | none => exact absurd q (c2.dm b z)
        | some o => rw [e b o q e']; exact fun z => nomatch z
    · rw [List.getElem?_set] at q
      by_cases e' : i = k
      · subst e'
        rw [if_pos rfl, if_pos hil] at q
        cases q
        exact ⟨p, _, h1, h2, h3, h5, hp', DDs.ints ns'⟩
      · rw [if_neg e'] at q
        have z := c2.sl k w q
        cases w with
        | d x => obtain ⟨v, z1, z2⟩ := z; exact ⟨v, z1, DD.mono sc _ _ z2⟩
        | v x => exact z
        | own ys =>
          obtain ⟨p', vs', z1, z2, z3, z5, z6, z7⟩ := z
          have np : p' ≠ p := fun zz => by
            subst zz
            exact c.ow i k _ ys p' hi q e' hv (join_some z1)
          exact ⟨p', vs', z1, z2, z3, z5, e p' _ z6 np, DDs.mono sc _ _ z7⟩
    · exact e b o (c2.fr b o q z) fun zz => by rw [zz, h5] at q; cases q
    · obtain ⟨ys', y1⟩ := iso k ys q1
      obtain ⟨zs', y2⟩ := iso l zs q2
      exact c.ow k l ys' zs' q y1 y2 q3 q4
  exact n B _ H' s2 _ hz (c3.setD d)
def initG (p : Addr) (N : List Str) (ds : List PyData) : DEnv := ds.map (fun d => some (.d d)) ++ some (.v (.ref p)) :: List.replicate (N.length - (ds.length + 1)) none
theorem initG_get {p : Addr} {N : List Str} {ds : List PyData} {i : Nat} {w : W} (h : (initG p N ds)[i]? = some (some w)) : (∃ d, ds[i]? = some d ∧ w = .d d) ∨ (i = ds.length ∧ w = .v (.ref p)) := by
  unfold initG at h
  by_cases hi : i < ds.length
  · rw [List.getElem?_append_left (by simpa using hi), List.getElem?_map] at h
    cases e : ds[i]? with
    | none => rw [e] at h; cases h
    | some x => rw [e] at h; cases h; exact .inl ⟨x, rfl, rfl⟩
  · rw [List.getElem?_append_right (by simpa using hi)] at h
    simp only [List.length_map] at h
    cases e : i - ds.length with
    | zero => rw [e] at h; cases h; exact .inr ⟨by omega, rfl⟩
    | succ k =>
      rw [e, List.getElem?_cons_succ, List.getElem?_replicate] at h
      split at h <;> cases h
theorem cxt_startG {N : List Str} {vs : List V} {ds : List PyData} {ns : List Int} {B : Addr → Prop} {H : Hp} {p : Addr} (dm : ∀ a, B a → H a ≠ none) (d : DDs (cut B H) vs ds) (hp : B p) (ha : H p = some (.lst (ns.map V.int))) :
    Cxt (lS p) B H B (L2.start N (vs ++ [.ref p])) H ns (initG p N ds) := by
  have hl := d.len
  refine ⟨fun a z => by rw [z]; exact hp, dm, ha, by unfold L2.start initG; simp [hl], fun i w q => ?_, Fr.refl, fun a z => z, dm, fun a z => .inl z, fun i j xs ys q h1 _ => ?_⟩
  · rcases initG_get q with ⟨x, h1, rfl⟩ | ⟨rfl, rfl⟩
    · obtain ⟨v, h2, h3⟩ := d.get h1
      have hi := (List.getElem?_eq_some_iff.mp h2).1
      have h4 : (vs ++ [V.ref p])[i]? = some v := by rw [List.getElem?_append_left hi]; exact h2
      exact ⟨v, by rw [start_get h4]; rfl, h3⟩
    · have h4 : (vs ++ [V.ref p])[ds.length]? = some (.ref p) := by rw [List.getElem?_append_right (by omega), hl, Nat.sub_self]; rfl
      show (_ : Option (Option V)).join = some _
      rw [start_get h4]
      rfl
  · rcases initG_get h1 with ⟨x, _, h⟩ | ⟨_, h⟩ <;> cases h
theorem fnG {P : Program} {w : World} {K : PySem.W.Frag} {mg : Str → Option Value} {base : Heap} {x qual : Str} {st : Stmt} {f : Addr} {fd : FuncData} {N ps : List Str} {k : Nat} {Pr : PreG} {t : TS} (F : Fun K x qual st f fd) (S : FnScope N ps (defScope st))
    (len : ∀ ds ns Ψ, Pr ds ns Ψ → ds.length + 1 = ps.length)
    (hb : ∀ (cdv : Value) (A : Around) (outer : List PySem.Env) (s : Shared) (H : Hp) (E : XK), Room k (A.deeper (PyProof.Rows.envOfC qual (defScope st) s.heap.objs.size f cdv)) → PSs (cxOf CX0 P w K mg base N qual (defScope st) f cdv A outer s H E).nox (defBody st) t)
    (hw : ∀ p ds ns Ψ, Pr ds ns Ψ → WS (lS p) t ns (initG p N ds) Ψ (fun _ => Ψ .none)) : FnOk P w K mg base CX0 (k + 1) f fd ps (spG Pr) := by
  refine F.ok S (fun vs H Q E h => ?_) (fun cdv A outer s H vs Q E hr h => ?_)
  · obtain ⟨p, us, B, ds, ns, Ψ, rfl, _, _, _, d, pr, _⟩ := h
    rw [List.length_append, d.len, ← len ds ns Ψ pr]
    rfl
  · obtain ⟨p, us, B, ds, ns, Ψ, rfl, hp, ha, dm, d, pr, q⟩ := h
    refine ⟨t, hb cdv A outer s H E hr, ?_⟩
    exact hw p ds ns Ψ pr B H B _ H (cxt_startG dm d hp ha) _ (fun v H' z s' hz e a d' => q v H' z s' hz e a d') fun B' σ' H' s' ρ' hn c => q .non H' .none s' hn c.fr c.at_ .non
end J

namespace J
open PySem L2
theorem fnR {P : Program} {w : World} {K : PySem.W.Frag} {mg : Str → Option Value} {base : Heap} {x qual : Str} {st : Stmt} {f : Addr} {fd : FuncData} {N ps : List Str} {k : Nat} {sp : Sp} {t : TS} (F : Fun K x qual st f fd) (S : FnScope N ps (defScope st))
    (len : ∀ vs H Q E, sp vs H Q E → vs.length = ps.length)
    (hb : ∀ (cdv : Value) (A : Around) (outer : List PySem.Env) (s : Shared) (H : Hp) (E : XK), Room k (A.deeper (PyProof.Rows.envOfC qual (defScope st) s.heap.objs.size f cdv)) → PSs (cxOf CX0 P w K mg base N qual (defScope st) f cdv A outer s H E).nox (defBody st) t)
    (hw : ∀ vs H Q E, sp vs H Q E → t { nx := fun _ H' => Q .non H', rt := Q } (L2.start N vs) H) : FnOk P w K mg base CX0 (k + 1) f fd ps sp :=
  F.ok S len fun cdv A outer s H vs Q E hr h => ⟨t, hb cdv A outer s H E hr, hw vs H Q E h⟩
theorem lay_ints : ∀ ns : List Int, PyData.canLayAll0 (ns.map .int) = true ∧ PyData.depthAll (ns.map .int) ≤ 1
  | [] => ⟨rfl, by simp [PyData.depthAll]⟩
  | n :: r => by
    obtain ⟨h1, h2⟩ := lay_ints r
    refine ⟨by simp [PyData.canLayAll0, PyData.canLay0, h1], ?_⟩
    have : PyData.depthAll (PyData.int n :: r.map .int) = max (PyData.int n).depth (PyData.depthAll (r.map .int)) := by simp [PyData.depthAll]
    show PyData.depthAll (PyData.int n :: r.map .int) ≤ 1
    rw [this]
    have : (PyData.int n).depth ≤ 1 := by simp [PyData.depth]
    omega
theorem shaped_ints (ns : List Int) : SeqAt.shaped (.list (ns.map .int)) = true := shaped_of (by simp [PyData.canLay0, (lay_ints ns).1]) (by have := (lay_ints ns).2; simp only [PyData.depth]; omega)
theorem shaped_intsT (ns : List Int) : SeqAt.shaped (.tuple (ns.map .int)) = true := shaped_of (by simp [PyData.canLay0, (lay_ints ns).1]) (by have := (lay_ints ns).2; simp only [PyData.depth]; omega)
theorem BoxAt.ne {b l : Addr} {H : Hp} (h : BoxAt b l H) : b ≠ l := by
  obtain ⟨ns, z, h1, h2⟩ := h
  rintro rfl
  rw [h1] at h2
  have e : ([.ref b, .int z] : List V) = ns.map V.int := by injection (Option.some.inj h2)
  cases ns with
  | nil => cases e
  | cons n r => cases e
def spBegun (K : PySem.W.Frag) : Sp := fun vs H Q _ => ∃ (a : Addr) (ns : List Int), vs = [.ref a] ∧ SqL K H a (ns.map V.int) ∧ ns.length ≤ 63 ∧ ∀ b l H', H b = none → H l = none → Same H H' → BoxAt b l H' → Q (.ref b) H'
def P_take : Pre := fun ds Ψ => ∃ m : Int, ds = [.int m] ∧ 0 < m ∧ m < 1000000 ∧ ∀ r, 0 ≤ r → r < m → Ψ (.int r)
theorem at0 {α : Type} {x : α} {r : List α} : atI (x :: r) 0 = some x := atI_nat (j := 0) rfl
theorem at1 {α : Type} {x y : α} {r : List α} : atI (x :: y :: r) 1 = some y := atI_nat (j := 1) rfl
theorem ixn0 {n : Nat} : ixN (n + 1) 0 = some 0 := by
  unfold ixN
  rw [if_pos (by decide), if_pos (by omega)]
  rfl
theorem sqi0 {n : Nat} : PySem.seqIndex? 0 (n + 1) = some 0 := (ixN_seq ixn0).1
/-! ### data without oddities -/
mutual
def nice : PyData → Bool
  | .none => true
  | .bool _ => true
  | .int _ => true
  | .str s => PyData.strOk s
  | .list ds => decide (ds.length ≤ 100000) && niceAll ds
  | .tuple ds => decide (ds.length ≤ 100000) && niceAll ds
  | .dict _ => false
def niceAll : List PyData → Bool
  | [] => true
  | d :: ds => nice d && niceAll ds
end
mutual
theorem nice_lay : ∀ d : PyData, nice d = true → d.canLay0 = true
  | .none, _ => rfl
  | .bool _, _ => rfl
  | .int _, _ => rfl
  | .str s, h => by simpa [PyData.canLay0, nice] using h
  | .list ds, h => by
    have h' : ds.length ≤ 100000 ∧ niceAll ds = true := by simpa [nice] using h
    simpa [PyData.canLay0] using niceAll_lay ds h'.2
  | .tuple ds, h => by
    have h' : ds.length ≤ 100000 ∧ niceAll ds = true := by simpa [nice] using h
    simpa [PyData.canLay0] using niceAll_lay ds h'.2
  | .dict _, h => by simp [nice] at h
theorem niceAll_lay : ∀ ds : List PyData, niceAll ds = true → PyData.canLayAll0 ds = true
  | [], _ => rfl
  | d :: ds, h => by
    have h' : nice d = true ∧ niceAll ds = true := by simpa [niceAll] using h
    simp [PyData.canLayAll0, nice_lay d h'.1, niceAll_lay ds h'.2]
end
theorem niceAll_mem : ∀ {ds : List PyData} {d : PyData}, niceAll ds = true → d ∈ ds → nice d = true
  | e :: r, d, h, m => by
    have h' : nice e = true ∧ niceAll r = true := by simpa [niceAll] using h
    cases m with
    | head _ => exact h'.1
    | tail _ m => exact niceAll_mem h'.2 m
theorem niceAll_of : ∀ {ds : List PyData}, (∀ d ∈ ds, nice d = true) → niceAll ds = true
  | [], _ => rfl
  | d :: ds, h => by simp [niceAll, h d (.head _), niceAll_of fun e m => h e (.tail _ m)]
theorem depth_mem : ∀ {ds : List PyData} {d : PyData}, d ∈ ds → d.depth ≤ PyData.depthAll ds
  | e :: r, d, m => by
    have e1 : PyData.depthAll (e :: r) = max e.depth (PyData.depthAll r) := by simp [PyData.depthAll]
    rw [e1]
    cases m with
    | head _ => omega
    | tail _ m => have := depth_mem m; omega
theorem depthAll_le : ∀ {ds : List PyData} {n : Nat}, (∀ d ∈ ds, d.depth ≤ n) → PyData.depthAll ds ≤ n
  | [], n, _ => by simp [PyData.depthAll]
  | d :: ds, n, h => by
    have e1 : PyData.depthAll (d :: ds) = max d.depth (PyData.depthAll ds) := by simp [PyData.depthAll]
    rw [e1]
    have := h d (.head _)
    have := depthAll_le fun e m => h e (.tail _ m)
    omega
theorem depth_list (ds : List PyData) : (PyData.list ds).depth = PyData.depthAll ds + 1 := by simp [PyData.depth]; try omega
theorem depth_tuple (ds : List PyData) : (PyData.tuple ds).depth = PyData.depthAll ds + 1 := by simp [PyData.depth]; try omega
theorem depth_int (i : Int) : (PyData.int i).depth ≤ 1 := by simp [PyData.depth]
theorem Cn.nice : ∀ c : Cn, J.nice c.D = true
  | .look _ => by simp [Cn.D, J.nice, niceAll, so_l]
  | .nt c => by simp [Cn.D, J.nice, niceAll, so_n, c.nice]
  | .pr b x y => by rw [D_pr]; simp [J.nice, niceAll, wOf_so b, x.nice, y.nice]
theorem nice_ints (ns : List Int) (h : ns.length ≤ 100000) : nice (.list (ns.map .int)) = true := by
  simp only [nice, List.length_map, Bool.and_eq_true, decide_eq_true_eq]
  exact ⟨h, niceAll_of fun d m => by obtain ⟨i, _, rfl⟩ := List.mem_map.mp m; rfl⟩
theorem nice_intsT (ns : List Int) (h : ns.length ≤ 100000) : nice (.tuple (ns.map .int)) = true := by
  simp only [nice, List.length_map, Bool.and_eq_true, decide_eq_true_eq]
  exact ⟨h, niceAll_of fun d m => by obtain ⟨i, _, rfl⟩ := List.mem_map.mp m; rfl⟩
theorem eqv_self {d : PyData} (h : nice d = true) : PyData.eqv d d = true := PySem.SeqAt.eqv_refl d (nice_lay d h)
theorem rd_ne_same {K : PySem.W.Frag} {Φ : PyData → Prop} {d : PyData} (hn : nice d = true) (hd : d.depth ≤ 64) (q : Φ (.bool false)) : RD (rNeD K) d d Φ := rd_ne (shaped_of (nice_lay _ hn) hd) (shaped_of (nice_lay _ hn) hd) (by rw [eqv_self hn]; exact q)
theorem rd_eq_same {K : PySem.W.Frag} {Φ : PyData → Prop} {d : PyData} (hn : nice d = true) (hd : d.depth ≤ 64) (q : Φ (.bool true)) : RD (rEqD K) d d Φ := rd_eq (shaped_of (nice_lay _ hn) hd) (shaped_of (nice_lay _ hn) hd) (by rw [eqv_self hn]; exact q)
end J

namespace J
open PySem L2
/-! ### what is told anew may be changed -/
mutual
def noL : PyData → Bool
  | .list _ => false
  | .tuple ds => noLs ds
  | _ => true
def noLs : List PyData → Bool
  | [] => true
  | d :: ds => noL d && noLs ds
end
def NewA (B : Addr → Prop) (H : Hp) : Addr → Prop := fun a => B a ∨ ∃ xs, H a = some (.lst xs)
mutual
theorem DD.noL {B : Addr → Prop} {H : Hp} : ∀ (d : PyData) (v : V), J.noL d = true → DD (cut B H) v d → DD (cut (NewA B H) H) v d
  | .none, _, _, h => by cases h; exact .non
  | .bool b, _, _, h => by cases h; exact .bl b
  | .int i, _, _, h => by cases h; exact .int i
  | .str x, _, _, h => by cases h; exact .str x
  | .list ds, _, n, h => by simp [J.noL] at n
  | .tuple ds, _, n, h => by
    cases h with
    | tup ha hs =>
      obtain ⟨h1, h2⟩ := cut_get ha
      exact .tup (cut_of h1 fun z => z.elim h2 fun ⟨xs, e⟩ => by rw [h1] at e; cases e) (DDs.noL ds _ (by simpa [J.noL] using n) hs)
  | .dict _, _, _, h => by cases h
theorem DDs.noL {B : Addr → Prop} {H : Hp} : ∀ (ds : List PyData) (vs : List V), J.noLs ds = true → DDs (cut B H) vs ds → DDs (cut (NewA B H) H) vs ds
  | [], _, _, h => by cases h; exact .nil
  | d :: ds, _, n, h => by
    have n' : J.noL d = true ∧ J.noLs ds = true := by simpa [J.noLs] using n
    cases h with
    | cons h1 h2 => exact .cons (DD.noL d _ n'.1 h1) (DDs.noL ds _ n'.2 h2)
end
theorem Cn.noL : ∀ c : Cn, J.noL c.D = true
  | .look _ => rfl
  | .nt c => by simp [Cn.D, J.noL, J.noLs, c.noL]
  | .pr b x y => by rw [D_pr]; simp [J.noL, J.noLs, x.noL, y.noL]
theorem noLs_ints : ∀ ns : List Int, noLs (ns.map .int) = true
  | [] => rfl
  | n :: r => by simp [noLs, noL, noLs_ints r]
theorem noL_ints (ns : List Int) : noL (.tuple (ns.map .int)) = true := noLs_ints ns
section
variable {T : Sto} {A0 : Addr → Prop} {H0 : Hp} {B : Addr → Prop} {σ : L2.St} {H H1 H2 : Hp} {s : T.S} {ρ : DEnv}
/-- the new lists: forbidden to what was there -/
def NewB (B : Addr → Prop) (H1 H2 : Hp) : Addr → Prop := fun a => B a ∨ (H1 a = none ∧ ∃ xs, H2 a = some (.lst xs))
theorem Cxt.fresh (c : Cxt T A0 H0 B σ H1 s ρ) (e : Same H1 H2) : Cxt T A0 H0 (NewB B H1 H2) σ H2 s ρ := by
  have sc : Same (cut B H1) (cut (NewB B H1 H2) H2) := fun a o q => by
    obtain ⟨q1, q2⟩ := cut_get q
    exact cut_of (e a o q1) fun z => z.elim q2 fun ⟨z, _⟩ => by rw [z] at q1; cases q1
  refine ⟨fun a z => .inl (c.fb a z), fun a z => ?_, T.loc s H1 H2 (fun a o _ h => e a o h) c.at_, c.ln, fun i w q => ?_, c.fr.trans (Fr.of e), fun a z => .inl (c.ab a z), c.d0, fun a z => ?_, c.ow⟩
  · rcases z with z | ⟨_, xs, z⟩
    · cases q : H1 a with
      | none => exact absurd q (c.dm a z)
      | some o => rw [e a o q]; exact fun z => nomatch z
    · rw [z]; exact fun z => nomatch z
  · have z := c.sl i w q
    cases w with
    | d x => obtain ⟨v, z1, z2⟩ := z; exact ⟨v, z1, DD.mono sc _ _ z2⟩
    | v x => exact z
    | own xs => obtain ⟨p, us, z1, z2, z3, z5, z6, z7⟩ := z; exact ⟨p, us, z1, .inl z2, z3, z5, e p _ z6, DDs.mono sc _ _ z7⟩
  · rcases z with z | ⟨z, _⟩
    · exact c.ba a z
    · refine .inr ?_
      by_cases f : T.F a
      · exact .inl f
      · refine .inr ?_
        cases q : H0 a with
        | none => rfl
        | some o => rw [c.fr a o q f] at z; cases z
theorem Cxt.mut (c : Cxt T A0 H0 B σ H s ρ) {p : Addr} {ys zs : List V} (hp : B p) (nf : ¬ T.F p) (n0 : H0 p = none) (no : ∀ (i : Nat) xs, ρ[i]? = some (some (.own xs)) → σ[i]? ≠ some (some (.ref p))) (hh : H p = some (.lst ys)) : Cxt T A0 H0 B σ (upd H p (.lst zs)) s ρ := by
  have sc : Same (cut B H) (cut B (upd H p (.lst zs))) := fun a o q => by
    obtain ⟨q1, q2⟩ := cut_get q
    exact cut_of (by rw [upd_ne fun z => q2 (by rw [z]; exact hp)]; exact q1) q2
  refine ⟨c.fb, fun a z => ?_, T.loc s H _ (fun a o hb q => by rw [upd_ne fun z => nf (by rw [← z]; exact hb)]; exact q) c.at_, c.ln, fun i w q => ?_, fun a o q n => ?_, c.ab, c.d0, c.ba, c.ow⟩
  · by_cases e : a = p
    · rw [e, upd_same]; exact fun z => nomatch z
    · rw [upd_ne e]; exact c.dm a z
  · have z := c.sl i w q
    cases w with
    | d x => obtain ⟨v, z1, z2⟩ := z; exact ⟨v, z1, DD.mono sc _ _ z2⟩
    | v x => exact z
    | own xs =>
      obtain ⟨p', us, z1, z2, z3, z5, z6, z7⟩ := z
      have np : p' ≠ p := fun zz => no i xs q (by rw [← zz]; exact join_some z1)
      exact ⟨p', us, z1, z2, z3, z5, by rw [upd_ne np]; exact z6, DDs.mono sc _ _ z7⟩
  · rw [upd_ne fun z => by rw [z, n0] at q; cases q]
    exact c.fr a o q n
end
/-- a statement that changes one list of what is told -/
def MutOk (tm : TS) (i : Nat) (x : PyData) : Prop := ∀ (G : Hp) (v : V) (σ : L2.St) (H : Hp) (D : Ends), σ[i]? = some (some v) → DD G v x → (∀ a o, G a = some o → H a = some o) → D.nx σ H → (∀ p ys zs, G p = some (.lst ys) → D.nx σ (upd H p (.lst zs))) → tm D σ H
theorem mut_append {K : PySem.W.Frag} {i : Nat} {j n : Int} {ds ys : List PyData} (h : atI ds j = some (.list ys)) (hl : ys.length < 100000) : MutOk (tDrop (tBM K "list" rAppend (tOp (rIx K) (tVar i) (tC (.int j))) (tCons (tC (.int n)) tNil))) i (.tuple ds) := fun G v σ H D hv d e _ k => by
  cases d with
  | tup ha hs =>
    obtain ⟨u, h1, h2⟩ := hs.at_ h
    cases h2 with
    | @lst p us _ hp hu =>
      exact ⟨_, hv, .inr (.inl ⟨_, _, j, .ref p, rfl, rfl, SqT.of (e _ _ ha), h1, Or.inl ⟨rfl, _, SqL.of (e _ _ hp)⟩, ⟨p, us, _, rfl, rfl, e _ _ hp, Nat.lt_of_lt_of_le (by rw [hu.len]; exact hl) (by decide), k p us _ hp⟩⟩)⟩
theorem mut_reverse {K : PySem.W.Frag} {i : Nat} {ys : List PyData} : MutOk (tDrop (tBM0 K "list" rReverse (tVar i))) i (.list ys) := fun G v σ H D hv d e _ k => by
  cases d with
  | @lst p us _ hp hu => exact ⟨_, hv, Or.inl ⟨rfl, _, SqL.of (e _ _ hp)⟩, p, us, rfl, rfl, e _ _ hp, k p us _ hp⟩
section
variable {T : Sto} {s : T.S} {ρ : DEnv} {R : PyData → T.S → Prop} {N : DEnv → T.S → Prop} {ta : TA} {te : TE} {tt : TT} {tm u : TS} {P : Pre} {E : XK} {i : Nat}
/-- x = f(..); if test: return e; x is changed; the rest -/
theorem ws_mutG (M : DEnv → T.S → Prop) (hu : ∀ ρ s, M ρ s → WS T u s ρ R N) (hi : i < ρ.length) (h : WA T ta s ρ fun xs s1 => noLs xs = true ∧ P xs fun x => MutOk tm i x ∧ WT T tt s1 (ρ.set i (some (.d x))) fun b s2 => if b = true then WE T te s2 (frz (ρ.set i (some (.d x)))) R else ∀ w, M (ρ.set i (some (.v w))) s2) :
    WS T (tSeq (tAsg (tCall (spD P) [] E ta) (gName i)) (tSeq (tIfS tt (tRet te) tNext) (tSeq tm u))) s ρ R N := fun A0 H0 B σ H c D r n =>
  h A0 H0 B σ H c _ fun vs H1 xs s1 ⟨nl, h1⟩ e1 a1 d1 => by
    have c1 := c.step e1 a1
    refine ⟨NewA B H1, xs, _, fun a z => ?_, by rw [List.append_nil]; exact DDs.noL _ _ nl d1, h1, fun v H2 x ⟨hm, ht⟩ e2 d2 => ?_⟩
    · rcases z with z | ⟨_, z⟩
      · exact c1.dm a z
      · rw [z]; exact fun z => nomatch z
    · have G1 : ∀ a o, cut (NewA B H1) H2 a = some o → H2 a = some o ∧ ¬ B a ∧ ∀ ys, o = .lst ys → H1 a = none := fun a o q => by
        obtain ⟨q1, q2⟩ := cut_get q
        refine ⟨q1, fun z => q2 (.inl z), fun ys eo => ?_⟩
        cases q3 : H1 a with
        | none => rfl
        | some o' =>
          have q4 := e2 a o' q3
          rw [q1] at q4
          cases q4
          exact absurd (.inr ⟨ys, by rw [q3, eo]⟩) q2
      have cN := (c1.fresh e2).set (i := i) (w := .v v) rfl fun _ z => nomatch z
      have cD := (c1.grow e2).setD (i := i) (DD.mono (cut_mono fun a z => .inl z) _ _ d2)
      have hv : (σ.set i (some v))[i]? = some (some v) := by rw [List.getElem?_set, if_pos rfl, if_pos (by rw [c.ln]; exact hi)]
      refine ht A0 H0 B _ H2 cD _ fun b H3 s2 hb e3 a3 => ?_
      cases b with
      | true =>
        have hb : WE T te s2 (frz (ρ.set i (some (.d x)))) R := hb
        exact hb A0 H0 _ _ H3 (cD.step e3 a3).frz _ fun v H' x s' f e a d => r v H' x s' f ((cD.step e3 a3).fr.trans e) a (DD.mono (cut_mono fun _ z => .inl z) _ _ d)
      | false =>
        have hb : ∀ w, WS T u s2 (ρ.set i (some (.v w))) R N := fun w => hu _ _ ((show ∀ w, M (ρ.set i (some (.v w))) s2 from hb) w)
        have c3 := cN.step e3 a3
        have G3 : ∀ a o, cut (NewA B H1) H2 a = some o → H3 a = some o := fun a o q => e3 a o (G1 a o q).1 fun z => (G1 a o q).2.1 (c.fb a z)
        refine hm _ v _ H3 _ hv d2 G3 (hb v A0 H0 _ _ _ c3 D r n) fun p ys zs hp => ?_
        obtain ⟨g1, g2, g3⟩ := G1 p _ hp
        have g4 := g3 ys rfl
        have nf : ¬ T.F p := fun z => g2 (c.fb p z)
        have n0 : H0 p = none := by
          cases q : H0 p with
          | none => rfl
          | some o => rw [c1.fr p o q nf] at g4; cases g4
        have no : ∀ (j : Nat) xs, (ρ.set i (some (.v v)))[j]? = some (some (.own xs)) → (σ.set i (some v))[j]? ≠ some (some (.ref p)) := fun j xs q1 q2 => by
          rw [List.getElem?_set] at q1 q2
          by_cases e : i = j
          · rw [if_pos e, if_pos hi] at q1; cases q1
          · rw [if_neg e] at q1 q2
            obtain ⟨p', us, z1, _, _, _, z6, _⟩ := c1.sl j _ q1
            have z := join_some z1
            rw [q2] at z
            cases z
            rw [g4] at z6
            cases z6
        exact hb v A0 H0 _ _ _ (c3.mut (.inr ⟨g4, ys, g1⟩) nf n0 no (G3 p _ hp)) D r n
end
section
variable {T : Sto} {s : T.S} {ρ : DEnv} {R : PyData → T.S → Prop} {N : DEnv → T.S → Prop} {ta : TA} {te : TE} {tt : TT} {tm u : TS} {P : Pre} {E : XK} {i : Nat}
theorem ws_mut (hi : i < ρ.length) (h : WA T ta s ρ fun xs s1 => noLs xs = true ∧ P xs fun x => MutOk tm i x ∧ WT T tt s1 (ρ.set i (some (.d x))) fun b s2 => if b = true then WE T te s2 (frz (ρ.set i (some (.d x)))) R else ∀ w, WS T u s2 (ρ.set i (some (.v w))) R N) :
    WS T (tSeq (tAsg (tCall (spD P) [] E ta) (gName i)) (tSeq (tIfS tt (tRet te) tNext) (tSeq tm u))) s ρ R N := ws_mutG (fun ρ s => WS T u s ρ R N) (fun _ _ z => z) hi h
/-- the same, nothing behind it -/
theorem ws_mutE (hi : i < ρ.length) (h : WA T ta s ρ fun xs s1 => noLs xs = true ∧ P xs fun x => MutOk tm i x ∧ WT T tt s1 (ρ.set i (some (.d x))) fun b s2 => if b = true then WE T te s2 (frz (ρ.set i (some (.d x)))) R else ∀ w, N (ρ.set i (some (.v w))) s2) :
    WS T (tSeq (tAsg (tCall (spD P) [] E ta) (gName i)) (tSeq (tIfS tt (tRet te) tNext) tm)) s ρ R N :=
  show WS T (tSeq (tAsg (tCall (spD P) [] E ta) (gName i)) (tSeq (tIfS tt (tRet te) tNext) (tSeq tm tNext))) s ρ R N from ws_mutG N (fun _ _ z => ws_next z) hi h
end
/-! ### loops between whose turns the slots are known -/
inductive LeE : DEnv → DEnv → Prop where
  | nil : LeE [] []
  | no {x : Option W} {a b : DEnv} : LeE a b → LeE (none :: a) (x :: b)
  | eq {x : Option W} {a b : DEnv} : LeE a b → LeE (x :: a) (x :: b)
theorem LeE.spec : ∀ {a b : DEnv}, LeE a b → a.length = b.length ∧ ∀ (i : Nat) w, a[i]? = some (some w) → b[i]? = some (some w)
  | _, _, .nil => ⟨rfl, fun _ _ h => h⟩
  | _, _, .no h => by
    obtain ⟨h1, h2⟩ := h.spec
    refine ⟨by simp [h1], fun i w e => ?_⟩
    cases i with
    | zero => cases e
    | succ i => exact h2 i w (by simpa using e)
  | _, _, .eq h => by
    obtain ⟨h1, h2⟩ := h.spec
    refine ⟨by simp [h1], fun i w e => ?_⟩
    cases i with
    | zero => simpa using e
    | succ i => simpa using h2 i w (by simpa using e)
theorem Cxt.weak {T : Sto} {A0 : Addr → Prop} {H0 : Hp} {B : Addr → Prop} {σ : L2.St} {H : Hp} {s : T.S} {ρ ρ' : DEnv} (c : Cxt T A0 H0 B σ H s ρ) (h : LeE ρ' ρ) : Cxt T A0 H0 B σ H s ρ' := by
  obtain ⟨h1, h2⟩ := h.spec
  exact ⟨c.fb, c.dm, c.at_, c.ln.trans h1.symm, fun i w q => c.sl i w (h2 i w q), c.fr, c.ab, c.d0, c.ba, fun i j xs ys p q1 q2 => c.ow i j xs ys p (h2 _ _ q1) (h2 _ _ q2)⟩
section
variable {T : Sto} {s : T.S} {ρ : DEnv} {R : PyData → T.S → Prop} {N : DEnv → T.S → Prop} {t : TS}
theorem ws_le {ρ' : DEnv} (le : LeE ρ' ρ) (h : WS T t s ρ' R N) : WS T t s ρ R N := ws_weak h le.spec
/-- behind it the slots may be forgotten -/
theorem ws_ends {N' : DEnv → T.S → Prop} (h : WS T t s ρ R fun ρ' s' => ∃ ρ2, LeE ρ2 ρ' ∧ N ρ2 s') : WS T t s ρ R N := fun A0 H0 B σ H c D r n => h A0 H0 B σ H c D r fun B' σ' H' s' ρ' ⟨ρ2, le, q⟩ c' => n B' σ' H' s' ρ2 q (c'.weak le)
variable {g : TG} {tb : TS} {tl : TE} {ta : TA} {K : PySem.W.Frag}
theorem ws_for_rangeC (C : Nat → DEnv) (h : WA T ta s ρ fun xs s1 => ∃ n : Int, xs = [.int n] ∧ n ≤ 1000000 ∧ -1000000 ≤ n ∧ LeE (C 0) ρ ∧
      (∀ (i : Nat) s', (i : Int) < n → WG T g (.int (i : Int)) s' (C i) fun ρ2 s2 => WS T tb s2 ρ2 R fun ρ' _ => LeE (C (i + 1)) ρ') ∧ ∀ s', N (C n.toNat) s') : WS T (tFor (iRng1 ta) g tb) s ρ R N := by
  refine ws_ends (N' := N) (ws_for_range fun A0 H0 B σ H c Q k => h A0 H0 B σ H c Q fun vs H' xs s1 ⟨n, e, h1, h2, le, hs, q⟩ => k vs H' xs s1 ⟨n, e, h1, h2, fun i ρ' _ => LeE (C i) ρ', le, fun i ρ' s' hi le' => ?_, fun ρ' s' le' => ⟨_, le', q s'⟩⟩)
  exact fun A0 H0 B σ H c v d Q k => hs i s' hi A0 H0 B σ H (c.weak le') v d Q k
theorem ws_for_listC (C : Nat → DEnv) (h : WE T tl s ρ fun x s1 => ∃ ds, x = .list ds ∧ LeE (C 0) ρ ∧ (∀ (i : Nat) d s', ds[i]? = some d → WG T g d s' (C i) fun ρ2 s2 => WS T tb s2 ρ2 R fun ρ' _ => LeE (C (i + 1)) ρ') ∧ ∀ s', N (C ds.length) s') :
    WS T (tFor (iSeq K tl) g tb) s ρ R N := by
  refine ws_ends (N' := N) (ws_for_list (WE.mono h fun x s1 ⟨ds, e, le, hs, q⟩ => ⟨ds, e, fun i ρ' _ => LeE (C i) ρ', le, fun i d ρ' s' hi le' => ?_, fun ρ' s' le' => ⟨_, le', q s'⟩⟩))
  exact fun A0 H0 B σ H c v d' Q k => hs i d s' hi A0 H0 B σ H (c.weak le') v d' Q k
/-! the same, and a word about the turns -/
theorem ws_for_listI (C : Nat → DEnv) (J : Nat → Prop) (h : WE T tl s ρ fun x s1 => ∃ ds, x = .list ds ∧ LeE (C 0) ρ ∧ J 0 ∧ (∀ (i : Nat) d s', ds[i]? = some d → J i → WG T g d s' (C i) fun ρ2 s2 => WS T tb s2 ρ2 R fun ρ' _ => LeE (C (i + 1)) ρ' ∧ J (i + 1)) ∧ ∀ s', J ds.length → N (C ds.length) s') :
    WS T (tFor (iSeq K tl) g tb) s ρ R N := by
  refine ws_ends (N' := N) (ws_for_list (WE.mono h fun x s1 ⟨ds, e, le, j0, hs, q⟩ => ⟨ds, e, fun i ρ' _ => LeE (C i) ρ' ∧ J i, ⟨le, j0⟩, fun i d ρ' s' hi ⟨le', hj⟩ => ?_, fun ρ' s' ⟨le', hj⟩ => ⟨_, le', q s' hj⟩⟩))
  exact fun A0 H0 B σ H c v d' Q k => hs i d s' hi hj A0 H0 B σ H (c.weak le') v d' Q k
theorem ws_for_rangeI (C : Nat → DEnv) (J : Nat → Prop) (h : WA T ta s ρ fun xs s1 => ∃ n : Int, xs = [.int n] ∧ n ≤ 1000000 ∧ -1000000 ≤ n ∧ LeE (C 0) ρ ∧ J 0 ∧
      (∀ (i : Nat) s', (i : Int) < n → J i → WG T g (.int (i : Int)) s' (C i) fun ρ2 s2 => WS T tb s2 ρ2 R fun ρ' _ => LeE (C (i + 1)) ρ' ∧ J (i + 1)) ∧ ∀ s', J n.toNat → N (C n.toNat) s') : WS T (tFor (iRng1 ta) g tb) s ρ R N := by
  refine ws_ends (N' := N) (ws_for_range fun A0 H0 B σ H c Q k => h A0 H0 B σ H c Q fun vs H' xs s1 ⟨n, e, h1, h2, le, j0, hs, q⟩ => k vs H' xs s1 ⟨n, e, h1, h2, fun i ρ' _ => LeE (C i) ρ' ∧ J i, ⟨le, j0⟩, fun i ρ' s' hi ⟨le', hj⟩ => ?_, fun ρ' s' ⟨le', hj⟩ => ⟨_, le', q s' hj⟩⟩)
  exact fun A0 H0 B σ H c v d Q k => hs i s' hi hj A0 H0 B σ H (c.weak le') v d Q k
theorem ws_for_tupC (C : Nat → DEnv) (h : WE T tl s ρ fun x s1 => ∃ ds, x = .tuple ds ∧ LeE (C 0) ρ ∧ (∀ (i : Nat) d s', ds[i]? = some d → WG T g d s' (C i) fun ρ2 s2 => WS T tb s2 ρ2 R fun ρ' _ => LeE (C (i + 1)) ρ') ∧ ∀ s', N (C ds.length) s') :
    WS T (tFor (iSeq K tl) g tb) s ρ R N := by
  refine ws_ends (N' := N) (ws_for_tup (WE.mono h fun x s1 ⟨ds, e, le, hs, q⟩ => ⟨ds, e, fun i ρ' _ => LeE (C i) ρ', le, fun i d ρ' s' hi le' => ?_, fun ρ' s' le' => ⟨_, le', q s'⟩⟩))
  exact fun A0 H0 B σ H c v d' Q k => hs i d s' hi A0 H0 B σ H (c.weak le') v d' Q k
end
section
variable {T : Sto} {s : T.S} {ρ : DEnv} {R : PyData → T.S → Prop} {N : DEnv → T.S → Prop} {tb : TS} {tt : TT}
theorem ws_whileC {α : Type} (C : α → DEnv) (I : α → Prop) (μ : α → Nat) (a0 : α) (h0 : I a0) (le : LeE (C a0) ρ) (hs : ∀ a s, I a → WT T tt s (C a) fun b s1 => if b = true then WS T tb s1 (C a) R (fun ρ' _ => ∃ a', I a' ∧ μ a' < μ a ∧ LeE (C a') ρ') else N (C a) s1) :
    WS T (tWhile tt tb) s ρ R N := by
  refine ws_ends (N' := N) (ws_while (W' := fun m ρ' _ => ∃ a, I a ∧ μ a = m ∧ LeE (C a) ρ') (m0 := μ a0) ⟨a0, h0, rfl, le⟩ ?_)
  rintro m ρ' s' ⟨a, ha, rfl, le'⟩
  intro A0 H0 B σ H c Q k
  refine hs a s' ha A0 H0 B σ H (c.weak le') Q fun b H' s1 hb e1 a1 => k b H' s1 ?_ e1 a1
  cases b with
  | true => exact ws_le le' (WS.mono (show WS T tb s1 (C a) R _ from hb) fun ρ2 s2 ⟨a', h1, h2, h3⟩ => ⟨_, h2, a', h1, rfl, h3⟩)
  | false => exact ⟨_, le', hb⟩
end
/-! ### the law -/
def spLaw (K : PySem.W.Frag) : Sp := fun vs H Q _ => ∃ (a : Addr) (ns : List Int), vs = [.ref a] ∧ SqL K H a (ns.map V.int) ∧ ns.length ≤ 63 ∧ ∀ H', Q (.bl true) H'
def initL (b : Addr) (N : List Str) : DEnv := none :: some (.v (.ref b)) :: List.replicate (N.length - 2) none
theorem fnLaw {P : Program} {w : World} {K : PySem.W.Frag} {mg : Str → Option Value} {base : Heap} {x qual : Str} {st : Stmt} {f : Addr} {fd : FuncData} {N ps : List Str} {k : Nat} {u : TS} (F : Fun K x qual st f fd) (S : FnScope N ps (defScope st)) (len : ps.length = 1 ∧ 2 ≤ N.length)
    (hb : ∀ (cdv : Value) (A : Around) (outer : List PySem.Env) (s : Shared) (H : Hp) (E : XK), Room k (A.deeper (PyProof.Rows.envOfC qual (defScope st) s.heap.objs.size f cdv)) → PSs (cxOf CX0 P w K mg base N qual (defScope st) f cdv A outer s H E).nox (defBody st) (tSeq (tAsg (tCall (spBegun K) [] E0 (tCons (tVar 0) tNil)) (gName 1)) u))
    (hw : ∀ b l, WS (bxS b l) u () (initL b N) (fun x _ => x = .bool true) (fun _ _ => False)) : FnOk P w K mg base CX0 (k + 1) f fd ps (spLaw K) := by
  refine F.ok S (fun vs H Q E h => ?_) (fun cdv A outer s H vs Q E hr h => ?_)
  · obtain ⟨a, ns, rfl, _⟩ := h
    rw [len.1]
    rfl
  · obtain ⟨a, ns, rfl, hS, hl, q⟩ := h
    refine ⟨_, hb cdv A outer s H E hr, ?_⟩
    have e : L2.start N [.ref a] = some (.ref a) :: none :: List.replicate (N.length - 2) none := by
      unfold L2.start
      have e2 : N.length - [V.ref a].length = (N.length - 2) + 1 := by show N.length - 1 = _; have := len.2; omega
      rw [e2]
      rfl
    rw [e]
    refine ⟨_, rfl, a, ns, rfl, hS, hl, fun b l H' hb hl' sm hbx => ?_⟩
    have hbx' := hbx
    obtain ⟨ms, z, h1, h2⟩ := hbx'
    refine hw b l (fun a => a = b ∨ a = l) H' (fun a => a = b ∨ a = l) _ H' ⟨fun a z => z, fun a z => ?_, hbx, ?_, fun i w q => ?_, Fr.refl, fun a z => z, fun a z => ?_, fun a z => .inl z, fun i j xs ys p h1 _ => ?_⟩ _ (fun v H'' x s' hx _ _ d => ?_) fun _ _ _ _ _ z => z.elim
    · rcases z with rfl | rfl
      · rw [h1]; exact fun z => nomatch z
      · rw [h2]; exact fun z => nomatch z
    · unfold initL
      simp
    · match i, q with
      | 1, q => cases q; rfl
      | n + 2, q =>
        have q : (List.replicate (N.length - 2) (none : Option W))[n]? = some (some w) := q
        rw [List.getElem?_replicate] at q
        split at q <;> cases q
    · rcases z with rfl | rfl
      · rw [h1]; exact fun z => nomatch z
      · rw [h2]; exact fun z => nomatch z
    · match i, h1 with
      | 1, q => cases q
      | n + 2, q =>
        have q : (List.replicate (N.length - 2) (none : Option W))[n]? = some (some (.own xs)) := q
        rw [List.getElem?_replicate] at q
        split at q <;> cases q
    · subst hx
      cases d
      exact q _
end J

namespace J
open PySem L2
/-! ### codes -/
abbrev wEnd : Str := "end"
structure Row where
  thing : Int
  when_ : Int
  to : Int
def Row.D (r : Row) : PyData := .tuple [.str wLook, .int r.thing, .int r.when_, .int r.to]
def endD (w : Int) : PyData := .tuple [.str wEnd, .int w]
def rowAt (i b y n : Int) : Row := if y = b + 1 then ⟨i, 0, n⟩ else ⟨i, 1, y⟩
def Cn.rows : Cn → Int → Int → Int → List Row
  | .look i, b, y, n => [rowAt i b y n]
  | .nt c, b, y, n => c.rows b n y
  | .pr true x d, b, y, n => x.rows b (b + x.looks) n ++ d.rows (b + x.looks) y n
  | .pr false x d, b, y, n => x.rows b y (b + x.looks) ++ d.rows (b + x.looks) y n
theorem Cn.rows_len : ∀ (c : Cn) (b y n : Int), (c.rows b y n).length = c.looks
  | .look i, b, y, n => rfl
  | .nt c, b, y, n => c.rows_len b n y
  | .pr true x d, b, y, n => by simp [Cn.rows, Cn.looks, x.rows_len, d.rows_len]
  | .pr false x d, b, y, n => by simp [Cn.rows, Cn.looks, x.rows_len, d.rows_len]
/-- where to if it is so, by the end that is first -/
def Cn.yes (c : Cn) (f : Int) : Int := c.looks + (if f = 0 then 1 else 0)
def Cn.code (c : Cn) (f : Int) : List PyData := (c.rows 0 (c.yes f) (2 * c.looks + 1 - c.yes f)).map Row.D ++ [endD f, endD (1 - f)]
theorem so_e : PyData.strOk wEnd = true := by decide +kernel
theorem Row.nice (r : Row) : J.nice r.D = true := by simp [Row.D, J.nice, niceAll, so_l]
theorem endD_nice (w : Int) : J.nice (endD w) = true := by simp [endD, J.nice, niceAll, so_e]
theorem Row.depth (r : Row) : r.D.depth ≤ 2 := by
  unfold Row.D
  rw [depth_tuple]
  have : PyData.depthAll [.str wLook, .int r.thing, .int r.when_, .int r.to] ≤ 1 := depthAll_le fun d hd => by
    simp only [List.mem_cons, List.not_mem_nil, or_false] at hd
    rcases hd with rfl | rfl | rfl | rfl <;> simp [PyData.depth]
  omega
theorem endD_depth (w : Int) : (endD w).depth ≤ 2 := by
  unfold endD
  rw [depth_tuple]
  have : PyData.depthAll [.str wEnd, .int w] ≤ 1 := depthAll_le fun d hd => by
    simp only [List.mem_cons, List.not_mem_nil, or_false] at hd
    rcases hd with rfl | rfl <;> simp [PyData.depth]
  omega
theorem Cn.code_mem {c : Cn} {f : Int} {d : PyData} (h : d ∈ c.code f) : (∃ r : Row, d = r.D) ∨ ∃ w, d = endD w := by
  unfold Cn.code at h
  rcases List.mem_append.mp h with h | h
  · obtain ⟨r, _, rfl⟩ := List.mem_map.mp h
    exact .inl ⟨r, rfl⟩
  · simp only [List.mem_cons, List.not_mem_nil, or_false] at h
    rcases h with rfl | rfl
    · exact .inr ⟨_, rfl⟩
    · exact .inr ⟨_, rfl⟩
theorem Cn.code_len (c : Cn) (f : Int) : (c.code f).length = c.looks + 2 := by simp [Cn.code, c.rows_len]
theorem Cn.code_nice {c : Cn} (f : Int) (h : c.looks ≤ 1000) : J.nice (.list (c.code f)) = true ∧ (PyData.list (c.code f)).depth ≤ 3 := by
  refine ⟨?_, ?_⟩
  · simp only [J.nice, Bool.and_eq_true, decide_eq_true_eq]
    refine ⟨by rw [c.code_len]; omega, niceAll_of fun d hd => ?_⟩
    rcases c.code_mem hd with ⟨r, rfl⟩ | ⟨w, rfl⟩
    · exact r.nice
    · exact endD_nice w
  · rw [depth_list]
    have : PyData.depthAll (c.code f) ≤ 2 := depthAll_le fun d hd => by
      rcases c.code_mem hd with ⟨r, rfl⟩ | ⟨w, rfl⟩
      · exact r.depth
      · exact endD_depth w
    omega
/-! ### reading a list of one's own -/
section
variable {T : Sto} {s : T.S} {ρ : DEnv} {Φ : PyData → T.S → Prop} {K : PySem.W.Frag} {i : Nat} {xs : List PyData} {te : TE}
theorem wp_lenO (h : ρ[i]? = some (some (.own xs))) (q : Φ (.int xs.length) s) : WE T (tCB (rLenU K) (tCons (tVar i) tNil)) s ρ Φ := fun A0 H0 B σ H c Q k => by
  obtain ⟨p, vs, h1, h2, h3, h5, h6, h7⟩ := c.sl i _ h
  refine ⟨_, join_some h1, .inl ⟨p, vs, rfl, .inl (SqL.of h6), ?_⟩⟩
  rw [h7.len]
  exact k _ H _ s q Fr.refl c.at_ (.int _)
theorem wp_ixO (h : ρ[i]? = some (some (.own xs))) (q : WE T te s ρ fun y s1 => ∃ n d, y = .int n ∧ atI xs n = some d ∧ Φ d s1) : WE T (tOp (rIx K) (tVar i) te) s ρ Φ := fun A0 H0 B σ H c Q k => by
  obtain ⟨p, vs, h1, h2, h3, h5, h6, h7⟩ := c.sl i _ h
  refine ⟨_, join_some h1, q A0 H0 B σ H c _ fun v H1 y s1 ⟨n, d, ey, e, f⟩ e1 a1 d1 => ?_⟩
  subst ey
  cases d1
  obtain ⟨u, g1, g2⟩ := h7.at_ e
  exact .inl ⟨p, vs, n, u, rfl, rfl, SqL.of (e1 p _ h6 h3), g1, k _ H1 _ s1 f e1 a1 (DD.mono (e1.cut c.fb) _ _ g2)⟩
end
end J

namespace J
open PySem L2
/-! ### codes that are run -/
def codeD (R : List Row) (f : Int) : List PyData := R.map Row.D ++ [endD f, endD (1 - f)]
structure RowOk (L : Nat) (k : Nat) (r : Row) : Prop where
  thing : 0 ≤ r.thing ∧ r.thing < 8
  bit : r.when_ = 0 ∨ r.when_ = 1
  to : (k : Int) < r.to ∧ r.to ≤ (L : Int) + 1
structure Code (R : List Row) (f : Int) : Prop where
  len : R.length ≤ 38
  rows : ∀ (k : Nat) r, R[k]? = some r → RowOk R.length k r
  bit : f = 0 ∨ f = 1
/-- where a row goes on -/
def Row.next (ws : List Int) (r : Row) (p : Nat) : Nat := if thingAt ws r.thing = r.when_ then r.to.toNat else p + 1
def Row.leap (ws : List Int) (r : Row) : Int := if thingAt ws r.thing = r.when_ then 1 else 0
/-- (the place that is come to, the things looked at, the jumps) -/
def runF (R : List Row) (ws : List Int) : Nat → Nat → Nat × List Int × Int
  | 0, p => (p, [], 0)
  | n + 1, p => match R[p]? with
    | none => (p, [], 0)
    | some r => ((runF R ws n (r.next ws p)).1, r.thing :: (runF R ws n (r.next ws p)).2.1, r.leap ws + (runF R ws n (r.next ws p)).2.2)
theorem runF_out {R : List Row} {ws : List Int} {p : Nat} (h : R[p]? = none) : ∀ n, runF R ws n p = (p, [], 0)
  | 0 => rfl
  | n + 1 => by simp [runF, h]
theorem runF_in {R : List Row} {ws : List Int} {p n : Nat} {r : Row} (h : R[p]? = some r) : runF R ws (n + 1) p = ((runF R ws n (r.next ws p)).1, r.thing :: (runF R ws n (r.next ws p)).2.1, r.leap ws + (runF R ws n (r.next ws p)).2.2) := by
  simp [runF, h]
theorem runF_leaps (R : List Row) (ws : List Int) : ∀ n p, 0 ≤ (runF R ws n p).2.2 ∧ (runF R ws n p).2.2 ≤ ((runF R ws n p).2.1.length : Int)
  | 0, p => ⟨Int.le_refl _, Int.le_refl _⟩
  | n + 1, p => by
    cases h : R[p]? with
    | none => rw [runF_out h]; exact ⟨Int.le_refl _, Int.le_refl _⟩
    | some r =>
      rw [runF_in h]
      have ih := runF_leaps R ws n (r.next ws p)
      have hl : r.leap ws = 0 ∨ r.leap ws = 1 := by unfold Row.leap; split <;> simp
      simp only [List.length_cons]
      omega
theorem runF_len (R : List Row) (ws : List Int) : ∀ n p, (runF R ws n p).2.1.length ≤ n
  | 0, p => Nat.le_refl _
  | n + 1, p => by
    cases h : R[p]? with
    | none => rw [runF_out h]; exact Nat.zero_le _
    | some r =>
      rw [runF_in h]
      have ih := runF_len R ws n (r.next ws p)
      simp only [List.length_cons]
      omega
/-- the whole run -/
def runOf (R : List Row) (ws : List Int) : Nat × List Int × Int := runF R ws R.length 0
/-- the run so far, and what is left of it -/
structure RunTo (R : List Row) (ws : List Int) (p : Nat) (l : List Int) (j : Int) : Prop where
  le : p ≤ R.length + 1
  len : l.length ≤ p
  is : ∃ n, R.length ≤ p + n ∧ runOf R ws = ((runF R ws n p).1, l ++ (runF R ws n p).2.1, j + (runF R ws n p).2.2)
theorem RunTo.start (R : List Row) (ws : List Int) : RunTo R ws 0 [] 0 := ⟨Nat.zero_le _, Nat.le_refl _, R.length, by omega, by unfold runOf; simp⟩
theorem Row.next_gt {L k : Nat} {r : Row} {ws : List Int} (h : RowOk L k r) : k < r.next ws k ∧ (k < L → r.next ws k ≤ L + 1) := by
  have := h.to
  unfold Row.next
  split <;> omega
theorem RunTo.turn {R : List Row} {f : Int} {ws : List Int} {p : Nat} {l : List Int} {j : Int} {r : Row} (c : Code R f) (h : RunTo R ws p l j) (hr : R[p]? = some r) : RunTo R ws (r.next ws p) (l ++ [r.thing]) (j + r.leap ws) := by
  obtain ⟨h1, h2, n, h3, h4⟩ := h
  have hp := (List.getElem?_eq_some_iff.mp hr).1
  obtain ⟨g1, g2⟩ := Row.next_gt (ws := ws) (c.rows p r hr)
  cases n with
  | zero => omega
  | succ n =>
    rw [runF_in hr] at h4
    refine ⟨g2 hp, by rw [List.length_append]; show l.length + 1 ≤ _; omega, n, by omega, ?_⟩
    rw [h4, List.append_assoc, Int.add_assoc]
    rfl
theorem RunTo.done {R : List Row} {ws : List Int} {p : Nat} {l : List Int} {j : Int} (h : RunTo R ws p l j) (hp : R.length ≤ p) : runOf R ws = (p, l, j) ∧ (p = R.length ∨ p = R.length + 1) := by
  obtain ⟨h1, h2, n, h3, h4⟩ := h
  rw [runF_out (List.getElem?_eq_none_iff.mpr hp)] at h4
  exact ⟨by rw [h4]; simp, by omega⟩
/-- an end's worth -/
def endAt (R : List Row) (f : Int) (p : Nat) : Int := if p = R.length then f else 1 - f
theorem codeD_row {R : List Row} {f : Int} {p : Nat} {r : Row} (h : R[p]? = some r) : atI (codeD R f) (p : Int) = some r.D := atI_nat (by
  have hp := (List.getElem?_eq_some_iff.mp h).1
  unfold codeD
  rw [List.getElem?_append_left (by rw [List.length_map]; exact hp), List.getElem?_map, h]
  rfl)
theorem codeD_end {R : List Row} {f : Int} {p : Nat} (h : p = R.length ∨ p = R.length + 1) : atI (codeD R f) (p : Int) = some (endD (endAt R f p)) := atI_nat (by
  unfold codeD endAt
  rw [List.getElem?_append_right (by rw [List.length_map]; omega), List.length_map]
  rcases h with rfl | rfl
  · rw [Nat.sub_self, if_pos rfl]; rfl
  · rw [show R.length + 1 - R.length = 1 from by omega, if_neg (by omega)]; rfl)
theorem codeD_len (R : List Row) (f : Int) : (codeD R f).length = R.length + 2 := by simp [codeD]
theorem codeD_shaped {R : List Row} {f : Int} (h : R.length ≤ 1000) : SeqAt.shaped (.list (codeD R f)) = true := by
  have hm : ∀ d ∈ codeD R f, J.nice d = true ∧ d.depth ≤ 2 := fun d hd => by
    unfold codeD at hd
    rcases List.mem_append.mp hd with hd | hd
    · obtain ⟨r, _, rfl⟩ := List.mem_map.mp hd
      exact ⟨r.nice, r.depth⟩
    · simp only [List.mem_cons, List.not_mem_nil, or_false] at hd
      rcases hd with rfl | rfl <;> exact ⟨endD_nice _, endD_depth _⟩
  refine shaped_of (nice_lay _ ?_) ?_
  · simp only [J.nice, Bool.and_eq_true, decide_eq_true_eq]
    exact ⟨by rw [codeD_len]; omega, niceAll_of fun d hd => (hm d hd).1⟩
  · rw [depth_list]
    have := depthAll_le fun d hd => (hm d hd).2
    omega
/-! a condition's code -/
theorem Cn.rows_ok : ∀ (c : Cn) (b y n L : Int), c.ok → 0 ≤ b → b + c.looks ≤ y → b + c.looks ≤ n → y ≤ L → n ≤ L → ∀ (k : Nat) r, (c.rows b y n)[k]? = some r →
    (0 ≤ r.thing ∧ r.thing < 8) ∧ (r.when_ = 0 ∨ r.when_ = 1) ∧ b + k < r.to ∧ r.to ≤ L ∧ (y ≠ n → b + k + 1 < r.to)
  | .look i, b, y, n, L, ok, hb, hy, hn, hyL, hnL, k, r, h => by
    have hy : b + ((1 : Nat) : Int) ≤ y := hy
    have hn : b + ((1 : Nat) : Int) ≤ n := hn
    cases k with
    | zero =>
      have e : rowAt i b y n = r := by simpa [Cn.rows] using h
      subst e
      unfold rowAt
      by_cases q : y = b + 1
      · rw [if_pos q]
        exact ⟨ok, .inl rfl, by show b + ((0 : Nat) : Int) < n; omega, hnL, fun z => by show b + ((0 : Nat) : Int) + 1 < n; omega⟩
      · rw [if_neg q]
        exact ⟨ok, .inr rfl, by show b + ((0 : Nat) : Int) < y; omega, hyL, fun z => by show b + ((0 : Nat) : Int) + 1 < y; omega⟩
    | succ k => simp [Cn.rows] at h
  | .nt c, b, y, n, L, ok, hb, hy, hn, hyL, hnL, k, r, h => by
    obtain ⟨h1, h2, h3, h4, h5⟩ := c.rows_ok b n y L ok hb hn hy hnL hyL k r h
    exact ⟨h1, h2, h3, h4, fun z => h5 fun w => z w.symm⟩
  | .pr true x d, b, y, n, L, ok, hb, hy, hn, hyL, hnL, k, r, h => by
    have hy : b + ((x.looks + d.looks : Nat) : Int) ≤ y := hy
    have hn : b + ((x.looks + d.looks : Nat) : Int) ≤ n := hn
    have dp := d.looks_pos
    have h : (x.rows b (b + x.looks) n ++ d.rows (b + x.looks) y n)[k]? = some r := h
    by_cases hk : k < x.looks
    · rw [List.getElem?_append_left (by rw [x.rows_len]; exact hk)] at h
      obtain ⟨h1, h2, h3, h4, h5⟩ := x.rows_ok b (b + x.looks) n L ok.1 hb (Int.le_refl _) (by omega) (by omega) hnL k r h
      exact ⟨h1, h2, h3, h4, fun _ => h5 (by omega)⟩
    · rw [List.getElem?_append_right (by rw [x.rows_len]; omega), x.rows_len] at h
      obtain ⟨h1, h2, h3, h4, h5⟩ := d.rows_ok (b + x.looks) y n L ok.2 (by omega) (by omega) (by omega) hyL hnL (k - x.looks) r h
      exact ⟨h1, h2, by omega, h4, fun z => by have := h5 z; omega⟩
  | .pr false x d, b, y, n, L, ok, hb, hy, hn, hyL, hnL, k, r, h => by
    have hy : b + ((x.looks + d.looks : Nat) : Int) ≤ y := hy
    have hn : b + ((x.looks + d.looks : Nat) : Int) ≤ n := hn
    have dp := d.looks_pos
    have h : (x.rows b y (b + x.looks) ++ d.rows (b + x.looks) y n)[k]? = some r := h
    by_cases hk : k < x.looks
    · rw [List.getElem?_append_left (by rw [x.rows_len]; exact hk)] at h
      obtain ⟨h1, h2, h3, h4, h5⟩ := x.rows_ok b y (b + x.looks) L ok.1 hb (by omega) (Int.le_refl _) hyL (by omega) k r h
      exact ⟨h1, h2, h3, h4, fun _ => h5 (by omega)⟩
    · rw [List.getElem?_append_right (by rw [x.rows_len]; omega), x.rows_len] at h
      obtain ⟨h1, h2, h3, h4, h5⟩ := d.rows_ok (b + x.looks) y n L ok.2 (by omega) (by omega) (by omega) hyL hnL (k - x.looks) r h
      exact ⟨h1, h2, by omega, h4, fun z => by have := h5 z; omega⟩
/-- the rows of a condition's code -/
def Cn.rows0 (c : Cn) (f : Int) : List Row := c.rows 0 (c.yes f) (2 * c.looks + 1 - c.yes f)
theorem Cn.code_eq (c : Cn) (f : Int) : c.code f = codeD (c.rows0 f) f := rfl
theorem Cn.yes_is {c : Cn} {f : Int} (hf : f = 0 ∨ f = 1) : (f = 1 ∧ c.yes f = c.looks) ∨ (f = 0 ∧ c.yes f = c.looks + 1) := by
  unfold Cn.yes
  rcases hf with rfl | rfl
  · exact .inr ⟨rfl, by rw [if_pos rfl]⟩
  · exact .inl ⟨rfl, by rw [if_neg (by decide)]; omega⟩
theorem Cn.row_ok {c : Cn} {f : Int} (ok : c.ok) (hf : f = 0 ∨ f = 1) {k : Nat} {r : Row} (h : (c.rows0 f)[k]? = some r) : RowOk c.looks k r ∧ (k : Int) + 1 < r.to := by
  have hy := c.yes_is hf
  obtain ⟨h1, h2, h3, h4, h5⟩ := c.rows_ok 0 (c.yes f) (2 * c.looks + 1 - c.yes f) (c.looks + 1) ok (Int.le_refl _) (by omega) (by omega) (by omega) (by omega) k r h
  have := h5 (by omega)
  exact ⟨⟨h1, h2, by omega, h4⟩, by omega⟩
theorem Cn.isCode {c : Cn} {f : Int} (ok : c.ok) (hl : c.looks ≤ 38) (hf : f = 0 ∨ f = 1) : Code (c.rows0 f) f := by
  have hlen : (c.rows0 f).length = c.looks := c.rows_len _ _ _
  exact ⟨by omega, fun k r h => by rw [hlen]; exact (Cn.row_ok ok hf h).1, hf⟩
/-- from the first row of a condition its rows come to where it is so, or to where it isn't -/
theorem Cn.runs {ws : List Int} (hw : Ws ws) {R : List Row} : ∀ (c : Cn) (b y n : Nat), c.ok → (∀ k, k < c.looks → R[b + k]? = (c.rows b y n)[k]?) → (y = b + c.looks ∨ n = b + c.looks) → b + c.looks ≤ y → b + c.looks ≤ n →
    ∀ (l : List Int) (j : Int) (m : Nat), c.looks ≤ m → ∃ i m', m ≤ m' + c.looks ∧ runF R ws m b = ((runF R ws m' (if c.val ws = 1 then y else n)).1, c.seen ws ++ (runF R ws m' (if c.val ws = 1 then y else n)).2.1, i + (runF R ws m' (if c.val ws = 1 then y else n)).2.2)
  | .look t, b, y, n, ok, hR, hyn, hy, hn, l, j, m, hm => by
    have hm : 1 ≤ m := hm
    have hyn : y = b + 1 ∨ n = b + 1 := hyn
    have h0 : R[b]? = some (rowAt t b y n) := by
      have := hR 0 Nat.one_pos
      simpa [Cn.rows] using this
    obtain ⟨m, rfl⟩ : ∃ k, m = k + 1 := ⟨m - 1, by omega⟩
    have hv : thingAt ws t = 0 ∨ thingAt ws t = 1 := (hw.at_ ok.1 ok.2).2
    refine ⟨(rowAt t b y n).leap ws, m, Nat.le_refl _, ?_⟩
    rw [runF_in h0]
    have e : (rowAt t b y n).next ws b = (if thingAt ws t = 1 then y else n) ∧ (rowAt t b y n).thing = t := by
      unfold rowAt
      by_cases q : (y : Int) = b + 1
      · rw [if_pos q]
        refine ⟨?_, rfl⟩
        show (if thingAt ws t = 0 then ((n : Int)).toNat else b + 1) = _
        rcases hv with e | e
        · rw [e, if_pos rfl, if_neg (by decide)]; omega
        · rw [e, if_neg (by decide), if_pos rfl]; omega
      · rw [if_neg q]
        refine ⟨?_, rfl⟩
        show (if thingAt ws t = 1 then ((y : Int)).toNat else b + 1) = _
        rcases hv with e | e
        · rw [e, if_neg (by decide), if_neg (by decide)]; omega
        · rw [e, if_pos rfl, if_pos rfl]; omega
    rw [e.1, e.2]
    rfl
  | .nt c, b, y, n, ok, hR, hyn, hy, hn, l, j, m, hm => by
    obtain ⟨i, m', h1, h2⟩ := c.runs hw b n y ok hR hyn.symm hn hy l j m hm
    refine ⟨i, m', h1, ?_⟩
    have hv := c.val_bit hw ok
    have e : (if (Cn.nt c).val ws = 1 then y else n) = (if c.val ws = 1 then n else y) := by
      show (if 1 - c.val ws = 1 then y else n) = _
      rcases hv with e | e <;> rw [e] <;> rfl
    rw [e]
    exact h2
  | .pr true x d, b, y, n, ok, hR, hyn, hy, hn, l, j, m, hm => by
    have hm : x.looks + d.looks ≤ m := hm
    have hyn : y = b + (x.looks + d.looks) ∨ n = b + (x.looks + d.looks) := hyn
    have hy : b + (x.looks + d.looks) ≤ y := hy
    have hn : b + (x.looks + d.looks) ≤ n := hn
    have dp := d.looks_pos
    have hR : ∀ k, k < x.looks + d.looks → R[b + k]? = (x.rows b ((b : Int) + x.looks) n ++ d.rows ((b : Int) + x.looks) y n)[k]? := hR
    have ec : (b : Int) + (x.looks : Int) = ((b + x.looks : Nat) : Int) := by omega
    rw [ec] at hR
    have hvx := x.val_bit hw ok.1
    obtain ⟨i, m', h1, h2⟩ := x.runs hw b (b + x.looks) n ok.1 (fun k hk => by rw [hR k (by omega), List.getElem?_append_left (by rw [x.rows_len]; exact hk)]) (.inl rfl) (Nat.le_refl _) (by omega) l j m (by omega)
    by_cases hs : x.val ws = stops true
    · have hs0 : x.val ws = 0 := hs
      rw [(Cn.pr_stop hs).1, (Cn.pr_stop hs).2]
      refine ⟨i, m', by show m ≤ m' + (x.looks + d.looks); omega, ?_⟩
      rw [h2, if_neg (by omega), if_neg (by omega)]
    · have hs1 : x.val ws = 1 := by
        rcases hvx with e | e
        · exact absurd e hs
        · exact e
      rw [if_pos hs1] at h2
      obtain ⟨i2, m2, h3, h4⟩ := d.runs hw (b + x.looks) y n ok.2 (fun k hk => by rw [Nat.add_assoc, hR (x.looks + k) (by omega), List.getElem?_append_right (by rw [x.rows_len]; omega), x.rows_len, Nat.add_sub_cancel_left]) (by omega) (by omega) (by omega) l j m' (by omega)
      rw [(Cn.pr_go hs).1, (Cn.pr_go hs).2]
      refine ⟨i + i2, m2, by show m ≤ m2 + (x.looks + d.looks); omega, ?_⟩
      rw [h2, h4, List.append_assoc, Int.add_assoc]
  | .pr false x d, b, y, n, ok, hR, hyn, hy, hn, l, j, m, hm => by
    have hm : x.looks + d.looks ≤ m := hm
    have hyn : y = b + (x.looks + d.looks) ∨ n = b + (x.looks + d.looks) := hyn
    have hy : b + (x.looks + d.looks) ≤ y := hy
    have hn : b + (x.looks + d.looks) ≤ n := hn
    have dp := d.looks_pos
    have hR : ∀ k, k < x.looks + d.looks → R[b + k]? = (x.rows b y ((b : Int) + x.looks) ++ d.rows ((b : Int) + x.looks) y n)[k]? := hR
    have ec : (b : Int) + (x.looks : Int) = ((b + x.looks : Nat) : Int) := by omega
    rw [ec] at hR
    have hvx := x.val_bit hw ok.1
    obtain ⟨i, m', h1, h2⟩ := x.runs hw b y (b + x.looks) ok.1 (fun k hk => by rw [hR k (by omega), List.getElem?_append_left (by rw [x.rows_len]; exact hk)]) (.inr rfl) (by omega) (Nat.le_refl _) l j m (by omega)
    by_cases hs : x.val ws = stops false
    · have hs0 : x.val ws = 1 := hs
      rw [(Cn.pr_stop hs).1, (Cn.pr_stop hs).2]
      refine ⟨i, m', by show m ≤ m' + (x.looks + d.looks); omega, ?_⟩
      rw [h2, if_pos hs0, if_pos hs0]
    · have hs1 : x.val ws = 0 := by
        rcases hvx with e | e
        · exact e
        · exact absurd e hs
      rw [if_neg (by omega)] at h2
      obtain ⟨i2, m2, h3, h4⟩ := d.runs hw (b + x.looks) y n ok.2 (fun k hk => by rw [Nat.add_assoc, hR (x.looks + k) (by omega), List.getElem?_append_right (by rw [x.rows_len]; omega), x.rows_len, Nat.add_sub_cancel_left]) (by omega) (by omega) (by omega) l j m' (by omega)
      rw [(Cn.pr_go hs).1, (Cn.pr_go hs).2]
      refine ⟨i + i2, m2, by show m ≤ m2 + (x.looks + d.looks); omega, ?_⟩
      rw [h2, h4, List.append_assoc, Int.add_assoc]
/-- run of the code tells what meant tells of the condition -/
theorem Cn.run_code {c : Cn} {f : Int} {ws : List Int} (hw : Ws ws) (ok : c.ok) (hf : f = 0 ∨ f = 1) : endAt (c.rows0 f) f (runOf (c.rows0 f) ws).1 = c.val ws ∧ (runOf (c.rows0 f) ws).2.1 = c.seen ws := by
  have hlen : (c.rows0 f).length = c.looks := c.rows_len _ _ _
  have hy := c.yes_is hf
  have hv := c.val_bit hw ok
  have e1 : ((c.yes f).toNat : Int) = c.yes f := by omega
  have e2 : ((2 * c.looks + 1 - c.yes f).toNat : Int) = 2 * c.looks + 1 - c.yes f := by omega
  obtain ⟨i, m', h1, h2⟩ := c.runs hw (R := c.rows0 f) 0 (c.yes f).toNat (2 * c.looks + 1 - c.yes f).toNat ok (fun k hk => by rw [e1, e2, Nat.zero_add]; rfl) (by omega) (by omega) (by omega) [] 0 c.looks (Nat.le_refl _)
  have hr : runOf (c.rows0 f) ws = runF (c.rows0 f) ws c.looks 0 := by unfold runOf; rw [hlen]
  have hp : ∀ p, (p = c.looks ∨ p = c.looks + 1) → runF (c.rows0 f) ws m' p = (p, [], 0) := fun p hp => runF_out (List.getElem?_eq_none_iff.mpr (by omega)) m'
  have hq : ∃ p : Nat, (if c.val ws = 1 then (c.yes f).toNat else (2 * c.looks + 1 - c.yes f).toNat) = p ∧ ((c.val ws = 1 ∧ (p : Int) = c.yes f) ∨ (c.val ws = 0 ∧ (p : Int) = 2 * c.looks + 1 - c.yes f)) := by
    refine ⟨_, rfl, ?_⟩
    rcases hv with e | e
    · rw [if_neg (by omega)]; exact .inr ⟨e, e2⟩
    · rw [if_pos e]; exact .inl ⟨e, e1⟩
  obtain ⟨p, hq1, hq2⟩ := hq
  rw [hq1, hp p (by omega)] at h2
  rw [hr, h2]
  refine ⟨?_, by simp⟩
  show (if p = (c.rows0 f).length then f else 1 - f) = c.val ws
  rw [hlen]
  by_cases q : p = c.looks
  · rw [if_pos q]; omega
  · rw [if_neg q]; omega
end J

namespace J
open PySem L2
/-! ### written dicts -/
def cD (kvs : List (Key × V)) : List (TE × TE) := kvs.map fun kv => (tC (kV kv.1), tC kv.2)
theorem pairs_c {σ : L2.St} {H : Hp} : ∀ {kvs : List (Key × V)} {Q : List (V × V) → Hp → Prop}, Q (kvs.map fun kv => (kV kv.1, kv.2)) H → tPairs (cD kvs) σ H Q
  | [], _, q => q
  | kv :: r, Q, q => pairs_c (kvs := r) (Q := fun ps H3 => Q ((kV kv.1, kv.2) :: ps) H3) q
theorem disp_c {σ : L2.St} {H : Hp} {kvs : List (Key × V)} {Q : VK} (hl : kvs.length ≤ 15) (q : ∀ p, H p = none → Q (.ref p) (upd H p (.dK (mergeK [] kvs)))) : tDisp (cD kvs) σ H Q := fun p hp =>
  pairs_c ⟨upd_same, kvs, rfl, hl, by rw [upd_upd]; exact q p hp⟩
def kD : Key → PyData
  | .inl i => .int i
  | .inr x => .str x
def vD : V → PyData
  | .int i => .int i
  | .str x => .str x
  | .bl b => .bool b
  | _ => .none
def scV : V → Bool
  | .int _ => true
  | .str _ => true
  | .bl _ => true
  | _ => false
theorem DD.sc {H : Hp} : ∀ {v : V}, scV v = true → DD H v (vD v)
  | .int i, _ => .int i
  | .str x, _ => .str x
  | .bl b, _ => .bl b
  | .non, h => by cases h
  | .byt _, h => by cases h
  | .flt _, h => by cases h
  | .ref _, h => by cases h
  | .ty _, h => by cases h
theorem DD.key {H : Hp} {v : V} {k : Key} (h : DD H v (kD k)) : v = kV k := by
  cases k with
  | inl i => cases h; rfl
  | inr x => cases h; rfl
section
variable {T : Sto} {s : T.S} {ρ : DEnv} {Φ : PyData → T.S → Prop} {ty tx : TE} {kvs : List (Key × V)}
theorem wp_dget (hl : kvs.length ≤ 15) (h : WE T ty s ρ fun y s1 => ∃ k r, y = kD k ∧ valV (mergeK [] kvs) k = some r ∧ scV r = true ∧ Φ (vD r) s1) : WE T (tDGet (tDisp (cD kvs)) ty) s ρ Φ := fun A0 H0 B σ H c Q k =>
  disp_c hl fun p hp => h A0 H0 B σ _ (c.grow (same_new hp)) _ fun v H1 y s1 ⟨ky, r, ey, hr, sr, q⟩ e1 a1 d1 => by
    subst ey
    have ev := DD.key d1
    subst ev
    have hp1 : H1 p = some (.dK (mergeK [] kvs)) := e1 p _ upd_same fun z => c.dm p (c.fb p z) hp
    refine ⟨p, r, rfl, ?_, k r H1 _ s1 q ((Fr.of (same_new hp)).trans e1) a1 (DD.sc sr)⟩
    rw [← hr]
    exact DGet.k hp1
theorem wp_dget2 (hl : kvs.length ≤ 15) (h : WE T ty s ρ fun y s1 => WE T tx s1 ρ fun x s2 => ∃ k z, y = kD k ∧ x = vD z ∧ scV z = true ∧ scV ((valV (mergeK [] kvs) k).getD z) = true ∧ Φ (vD ((valV (mergeK [] kvs) k).getD z)) s2) : WE T (tDGet2 (tDisp (cD kvs)) ty tx) s ρ Φ := fun A0 H0 B σ H c Q k =>
  disp_c hl fun p hp => by
    have cp := c.grow (same_new (o := .dK (mergeK [] kvs)) hp)
    refine ⟨p, rfl, .inl ⟨_, .inl upd_same⟩, h A0 H0 B σ _ cp _ fun v H1 y s1 h1 e1 a1 d1 => h1 A0 H0 B σ H1 (cp.step e1 a1) _ fun u H2 x s2 ⟨ky, z, ey, ex, sz, sr, q⟩ e2 a2 d2 => ?_⟩
    subst ey
    have ev := DD.key d1
    subst ev
    have eu : u = z := by
      subst ex
      cases z <;> first | (cases sz; done) | (cases d2; rfl)
    subst eu
    have nf : ¬ T.F p := fun z => c.dm p (c.fb p z) hp
    have hp2 : H2 p = some (.dK (mergeK [] kvs)) := e2 p _ (e1 p _ upd_same nf) nf
    exact ⟨_, DGet.k hp2, k _ H2 _ s2 q (((Fr.of (same_new hp)).trans e1).trans e2) a2 (DD.sc sr)⟩
end
/-! a dict that a def keeps -/
@[reducible] def tabS (T : Sto) (p : Addr) (kvs : List (Key × V)) : Sto := ⟨T.S, fun a => T.F a ∨ a = p, fun s H => T.At s H ∧ H p = some (.dK kvs), fun s H H' e ⟨h1, h2⟩ => ⟨T.loc s H H' (fun a o f => e a o (.inl f)) h1, e p _ (.inr rfl) h2⟩, fun s H a ⟨h1, h2⟩ f => by
  rcases f with f | f
  · exact T.dom s H a h1 f
  · rw [f, h2]; exact fun z => nomatch z⟩
section
variable {T : Sto} {s : T.S} {ρ : DEnv} {R : PyData → T.S → Prop} {te ty : TE} {kvs : List (Key × V)} {i : Nat} {N : DEnv → T.S → Prop}
/-- d = {..}; return e -/
theorem ws_dictRet (hl : kvs.length ≤ 15) (h : ∀ p, WE (tabS T p (mergeK [] kvs)) te s (frz ρ |>.set i (some (.v (.ref p)))) R) : WS T (tSeq (tAsg (tDisp (cD kvs)) (gName i)) (tRet te)) s ρ R N := fun A0 H0 B σ H c D r n =>
  show tDisp (cD kvs) σ H (fun x H1 => te (σ.set i (some x)) H1 D.rt) from disp_c hl fun p hp => by
    have c1 := (c.frz.grow (same_new (o := .dK (mergeK [] kvs)) hp))
    have nF : ¬ T.F p := fun z => c.dm p (c.fb p z) hp
    have nA : ¬ A0 p := fun z => c.dm p (c.ab p z) hp
    have n0 : H0 p = none := by
      cases q : H0 p with
      | none => rfl
      | some o => rw [c.fr p o q nF] at hp; cases hp
    have c2 : Cxt (tabS T p (mergeK [] kvs)) A0 H0 (fun a => (A0 a ∨ T.F a) ∨ a = p) σ (upd H p (.dK (mergeK [] kvs))) s (frz ρ) := by
      refine ⟨fun a z => z.elim (fun z => .inl (.inr z)) .inr, fun a z => ?_, ⟨c1.at_, upd_same⟩, c1.ln, fun j w q => ?_, fun a o q z => c1.fr a o q fun y => z (.inl y), fun a z => .inl (.inl z), c1.d0, fun a z => ?_, c1.ow⟩
      · rcases z with z | z
        · exact c1.dm a z
        · rw [z, upd_same]; exact fun z => nomatch z
      · have z := c.frz.sl j w q
        cases w with
        | d x =>
          obtain ⟨v, z1, z2⟩ := z
          refine ⟨v, z1, DD.mono (fun a o q => ?_) _ _ z2⟩
          obtain ⟨q1, q2⟩ := cut_get q
          exact cut_of (same_new hp a o q1) fun z => z.elim q2 fun z => by rw [z, hp] at q1; cases q1
        | v x => exact z
        | own xs =>
          unfold frz at q
          rw [List.getElem?_map] at q
          cases e : ρ[j]? with
          | none => rw [e] at q; cases q
          | some w => rw [e] at q; cases w with
            | none => cases q
            | some w => cases w <;> cases q
      · rcases z with z | z
        · rcases z with z | z
          · exact .inl z
          · exact .inr (.inl (.inl z))
        · exact .inr (.inl (.inr z))
    have c3 := c2.set (i := i) (w := .v (.ref p)) rfl fun _ z => nomatch z
    refine h p A0 H0 _ _ _ c3 _ fun v H' x s' f e a d => r v H' x s' f ?_ a.1 (DD.mono (cut_mono fun _ z => .inl (.inl z)) _ _ d)
    intro b o q z
    by_cases eb : b = p
    · rw [eb, n0] at q; cases q
    · exact e b o (same_new hp b o (c.fr b o q z)) fun y => y.elim z eb
theorem wp_tabGet {p : Addr} {kvs : List (Key × V)} {Φ : PyData → T.S → Prop} (hi : ρ[i]? = some (some (.v (.ref p)))) (h : WE (tabS T p kvs) ty s ρ fun y s1 => ∃ k r, y = kD k ∧ valV kvs k = some r ∧ scV r = true ∧ Φ (vD r) s1) : WE (tabS T p kvs) (tDGet (tVar i) ty) s ρ Φ := fun A0 H0 B σ H c Q k =>
  ⟨_, join_some (c.sl i _ hi), h A0 H0 B σ H c _ fun v H1 y s1 ⟨ky, r, ey, hr, sr, q⟩ e1 a1 d1 => by
    subst ey
    have ev := DD.key d1
    subst ev
    refine ⟨p, r, rfl, ?_, k r H1 _ s1 q e1 a1 (DD.sc sr)⟩
    rw [← hr]
    exact DGet.k a1.2⟩
end
/-! ### more statements -/
section
variable {T : Sto} {s : T.S} {ρ : DEnv} {R : PyData → T.S → Prop} {N : DEnv → T.S → Prop} {te : TE}
theorem ws_par {i j : Nat} {ta : TA} (h : WA T ta s ρ fun xs s1 => ∃ a b, xs = [a, b] ∧ N ((ρ.set i (some (.d a))).set j (some (.d b))) s1) : WS T (tPar i j ta) s ρ R N := fun A0 H0 B σ H c D r n =>
  h A0 H0 B σ H c _ fun vs H1 xs s1 ⟨a, b, e, q⟩ e1 a1 d1 => by
    subst e
    cases d1 with
    | cons d1 d2 =>
      cases d2 with
      | cons d2 d3 =>
        cases d3
        exact ⟨_, _, rfl, n B _ H1 s1 _ q (((c.step e1 a1).setD d1).setD d2)⟩
/-- x.extend([..]), x a list of one's own -/
theorem ws_ext {K : PySem.W.Frag} {i : Nat} {xs : List PyData} (ho : ρ[i]? = some (some (.own xs))) (h : WE T te s ρ fun y s1 => ∃ ys, y = .list ys ∧ xs.length + ys.length ≤ 100000 ∧ N (ρ.set i (some (.own (xs ++ ys)))) s1) :
    WS T (tDrop (tBM K "list" rExtend (tVar i) (tCons te tNil))) s ρ R N := fun A0 H0 B σ H c D r n => by
  obtain ⟨p, vs, h1, h2, h3, h5, h6, h7⟩ := c.sl i _ ho
  have hi := join_some h1
  refine ⟨_, hi, Or.inl ⟨rfl, _, SqL.of h6⟩, h A0 H0 B σ H c _ fun v H1 y s1 ⟨ys, ey, hl, f⟩ e a d => ?_⟩
  subst ey
  cases d with
  | @lst q us _ hq hu =>
  have c1 := c.step e a
  have hp : H1 p = some (.lst vs) := e _ _ h6 h3
  refine ⟨p, q, vs, us, rfl, rfl, hp, (cut_get hq).1, Nat.le_trans (by rw [h7.len, hu.len]; exact hl) (by decide), ?_⟩
  have fr : Fr (fun a => a = p) H1 (upd H1 p (.lst (vs ++ us))) := fun b o q z => by rw [upd_ne z]; exact q
  have sc : Same (cut B H1) (cut B (upd H1 p (.lst (vs ++ us)))) := fr.cut fun b z => by rw [z]; exact h2
  have hil : i < ρ.length := (List.getElem?_eq_some_iff.mp ho).1
  have iso : ∀ (j : Nat) zs, (ρ.set i (some (.own (xs ++ ys))))[j]? = some (some (.own zs)) → ∃ zs, ρ[j]? = some (some (.own zs)) := fun j zs q => by
    rw [List.getElem?_set] at q
    by_cases e' : i = j
    · subst e'; exact ⟨_, ho⟩
    · rw [if_neg e'] at q; exact ⟨_, q⟩
  refine n B σ _ s1 _ f ⟨c.fb, fun b z => ?_, T.loc s1 H1 _ (fun b o hb q => ?_) a, by rw [List.length_set]; exact c.ln, fun j w q => ?_, fun b o q z => ?_, c.ab, c.d0, c.ba, fun j k ys zs q q1 q2 q3 q4 => ?_⟩
  · by_cases e' : b = p
    · rw [e', upd_same]; exact fun z => nomatch z
    · rw [upd_ne e']; exact c1.dm b z
  · rw [upd_ne fun z => h3 (by rw [← z]; exact hb)]; exact q
  · rw [List.getElem?_set] at q
    by_cases e' : i = j
    · subst e'
      rw [if_pos rfl, if_pos hil] at q
      cases q
      exact ⟨p, _, h1, h2, h3, h5, upd_same, (DDs.mono (sc) _ _ (DDs.mono (e.cut c.fb) _ _ h7)).app (DDs.mono sc _ _ hu)⟩
    · rw [if_neg e'] at q
      have z := c1.sl j w q
      cases w with
      | d x => obtain ⟨v, z1, z2⟩ := z; exact ⟨v, z1, DD.mono sc _ _ z2⟩
      | v x => exact z
      | own ys =>
        obtain ⟨p', vs', z1, z2, z3, z5, z6, z7⟩ := z
        have np : p' ≠ p := fun zz => by
          subst zz
          exact c.ow i j xs ys p' ho q e' hi (join_some z1)
        exact ⟨p', vs', z1, z2, z3, z5, by rw [upd_ne np]; exact z6, DDs.mono sc _ _ z7⟩
  · rw [upd_ne fun zz => by rw [zz, h5] at q; cases q]
    exact c1.fr b o q z
  · obtain ⟨ys', y1⟩ := iso j ys q1
    obtain ⟨zs', y2⟩ := iso k zs q2
    exact c.ow j k ys' zs' q y1 y2 q3 q4
/-- y = x, x a list of one's own: from then on it is data -/
theorem ws_move {i j : Nat} {xs : List PyData} (ho : ρ[j]? = some (some (.own xs))) (h : N ((ρ.set j (some (.d (.list xs)))).set i (some (.d (.list xs)))) s) : WS T (tAsg (tVar j) (gName i)) s ρ R N := fun A0 H0 B σ H c D r n => by
  obtain ⟨p, vs, h1, h2, h3, h5, h6, h7⟩ := c.sl j _ ho
  have hj := join_some h1
  have hil : j < ρ.length := (List.getElem?_eq_some_iff.mp ho).1
  have sc : Same (cut B H) (cut (fun a => B a ∧ a ≠ p) H) := cut_mono fun a z => z.1
  have dp : DD (cut (fun a => B a ∧ a ≠ p) H) (.ref p) (.list xs) := .lst (cut_of h6 fun z => z.2 rfl) (DDs.mono sc _ _ h7)
  have c1 : Cxt T A0 H0 (fun a => B a ∧ a ≠ p) σ H s (ρ.set j (some (.d (.list xs)))) := by
    have own : ∀ (k : Nat) ys, (ρ.set j (some (.d (.list xs))))[k]? = some (some (.own ys)) → j ≠ k ∧ ρ[k]? = some (some (.own ys)) := fun k ys q => by
      rw [List.getElem?_set] at q
      by_cases e : j = k
      · rw [if_pos e, if_pos hil] at q; cases q
      · rw [if_neg e] at q; exact ⟨e, q⟩
    refine ⟨fun a z => ⟨c.fb a z, fun zz => h3 (by rw [← zz]; exact z)⟩, fun a z => c.dm a z.1, c.at_, by rw [List.length_set]; exact c.ln, fun k w q => ?_, c.fr, fun a z => ⟨c.ab a z, fun zz => c.d0 a z (by rw [zz]; exact h5)⟩, c.d0, fun a z => c.ba a z.1, fun k l ys zs q q1 q2 q3 q4 => ?_⟩
    · rw [List.getElem?_set] at q
      by_cases e : j = k
      · rw [if_pos e, if_pos hil] at q
        cases q
        exact ⟨.ref p, by rw [← e]; exact h1, dp⟩
      · rw [if_neg e] at q
        have z := c.sl k w q
        cases w with
        | d x => obtain ⟨v, z1, z2⟩ := z; exact ⟨v, z1, DD.mono sc _ _ z2⟩
        | v x => exact z
        | own ys =>
          obtain ⟨p', vs', z1, z2, z3, z5, z6, z7⟩ := z
          have np : p' ≠ p := fun zz => by
            subst zz
            exact c.ow j k xs ys p' ho q e hj (join_some z1)
          exact ⟨p', vs', z1, ⟨z2, np⟩, z3, z5, z6, DDs.mono sc _ _ z7⟩
    · obtain ⟨_, y1⟩ := own k ys q1
      obtain ⟨_, y2⟩ := own l zs q2
      exact c.ow k l ys zs q y1 y2 q3 q4
  exact ⟨_, hj, n _ _ H s _ h (c1.setD dp)⟩
end
/-! ### worths by a number -/
def wsOf (n : Int) : List Int := [n / 128 % 2, n / 64 % 2, n / 32 % 2, n / 16 % 2, n / 8 % 2, n / 4 % 2, n / 2 % 2, n / 1 % 2]
theorem wsOf_ws (n : Int) : Ws (wsOf n) := ⟨rfl, fun w hw => by
  simp only [wsOf, List.mem_cons, List.not_mem_nil, or_false] at hw
  omega⟩
def wD (ws : List Int) : PyData := .tuple (ws.map .int)
theorem unI_D : ∀ ns : List Int, (ns.map PyData.int).map (fun d => match d with | .int i => i | _ => 0) = ns
  | [] => rfl
  | n :: r => by rw [List.map_cons, List.map_cons, unI_D r]
def unW : PyData → List Int
  | .tuple xs => xs.map fun d => match d with | .int i => i | _ => 0
  | _ => []
theorem unW_D (ws : List Int) : unW (wD ws) = ws := unI_D ws
/-! ### what is told of a condition -/
def toldD (c : Cn) (ws : List Int) : PyData := .tuple [.int (c.val ws), .list ((c.seen ws).map .int)]
theorem told_nice (c : Cn) (ws : List Int) (h : c.looks ≤ 1000) : nice (toldD c ws) = true ∧ (toldD c ws).depth ≤ 3 := by
  have h1 := c.seen_len ws
  have h2 := nice_ints (c.seen ws) (by omega)
  refine ⟨by unfold toldD; simp [nice, niceAll] at h2 ⊢; exact h2, ?_⟩
  unfold toldD
  rw [depth_tuple]
  have h3 := (lay_ints (c.seen ws)).2
  have h4 : PyData.depthAll [.int (c.val ws), .list ((c.seen ws).map .int)] ≤ 2 := depthAll_le fun d hd => by
    simp only [List.mem_cons, List.not_mem_nil, or_false] at hd
    rcases hd with rfl | rfl
    · simp [PyData.depth]
    · rw [depth_list]; omega
  omega
theorem wD_nice (ws : List Int) (h : ws.length ≤ 1000) : nice (wD ws) = true ∧ (wD ws).depth ≤ 2 := by
  refine ⟨nice_intsT ws (by omega), ?_⟩
  unfold wD
  rw [depth_tuple]
  have := (lay_ints ws).2
  omega
theorem eqv_ints : ∀ a b : List Int, PyData.eqvAll (a.map .int) (b.map .int) = decide (a = b)
  | [], [] => rfl
  | [], _ :: _ => by simp [PyData.eqvAll]
  | _ :: _, [] => by simp [PyData.eqvAll]
  | x :: a, y :: b => by
    show (PyData.eqv (.int x) (.int y) && PyData.eqvAll (a.map .int) (b.map .int)) = _
    rw [eqv_ints a b]
    show ((x == y) && decide (a = b)) = _
    by_cases h : x = y
    · subst h; simp
    · simp [h]
theorem eqv_told (c d : Cn) (ws vs : List Int) : PyData.eqv (toldD c ws) (toldD d vs) = decide (c.val ws = d.val vs ∧ c.seen ws = d.seen vs) := by
  show (PyData.eqv (.int (c.val ws)) (.int (d.val vs)) && (PyData.eqvAll ((c.seen ws).map .int) ((d.seen vs).map .int) && true)) = _
  rw [eqv_ints]
  show ((c.val ws == d.val vs) && (decide (c.seen ws = d.seen vs) && true)) = _
  rw [Bool.and_true, Bool.eq_iff_iff]
  simp
theorem eqv_nil (xs : List PyData) : PyData.eqv (.list xs) (.list []) = xs.isEmpty := by cases xs <;> simp [PyData.eqv, PyData.eqvAll]
/-! ### the first worths that part two conditions -/
def tellsSame (c d : Cn) (n : Nat) : Bool := decide (c.val (wsOf n) = d.val (wsOf n) ∧ c.seen (wsOf n) = d.seen (wsOf n))
def partN (c d : Cn) : Option Nat := (List.range 256).find? fun n => !tellsSame c d n
def partD (c d : Cn) : PyData := match partN c d with
  | none => .none
  | some n => .tuple [wD (wsOf n), toldD c (wsOf n), toldD d (wsOf n)]
theorem partN_some {c d : Cn} {i : Nat} (hi : i < 256) (h : ∀ n, n < i → tellsSame c d n = true) (hn : tellsSame c d i = false) : partN c d = some i := by
  unfold partN
  rw [List.find?_range_eq_some]
  exact ⟨by rw [hn]; rfl, List.mem_range.mpr hi, fun j hj => by rw [h j hj]; rfl⟩
theorem partN_none {c d : Cn} (h : ∀ n, n < 256 → tellsSame c d n = true) : partN c d = none := by
  unfold partN
  rw [List.find?_eq_none]
  intro n hn
  rw [h n (List.mem_range.mp hn)]
  decide
theorem tellsSame_comm (c d : Cn) (n : Nat) : tellsSame c d n = tellsSame d c n := by
  unfold tellsSame
  rw [decide_eq_decide]
  exact ⟨fun h => ⟨h.1.symm, h.2.symm⟩, fun h => ⟨h.1.symm, h.2.symm⟩⟩
theorem partN_comm (c d : Cn) : partN c d = partN d c := by
  unfold partN
  congr 1
  funext n
  rw [tellsSame_comm]
def sameWorth (c d : Cn) : Bool := (List.range 256).all fun n : Nat => decide (c.val (wsOf n) = d.val (wsOf n))
theorem partD_nice (c d : Cn) (h : c.looks ≤ 1000) (h' : d.looks ≤ 1000) : nice (partD c d) = true ∧ (partD c d).depth ≤ 4 := by
  unfold partD
  cases partN c d with
  | none => exact ⟨rfl, by simp [PyData.depth]⟩
  | some n =>
    have h1 := wD_nice (wsOf n) (by show 8 ≤ 1000; decide)
    have h2 := told_nice c (wsOf n) h
    have h3 := told_nice d (wsOf n) h'
    refine ⟨by simp [nice, niceAll, h1.1, h2.1, h3.1], ?_⟩
    rw [depth_tuple]
    have h4 : PyData.depthAll [wD (wsOf n), toldD c (wsOf n), toldD d (wsOf n)] ≤ 3 := depthAll_le fun e he => by
      simp only [List.mem_cons, List.not_mem_nil, or_false] at he
      rcases he with rfl | rfl | rfl <;> omega
    omega
/-! ### loops with a state -/
section
variable {T : Sto} {s : T.S} {ρ : DEnv} {R : PyData → T.S → Prop} {N : DEnv → T.S → Prop} {g : TG} {tb : TS} {tl : TE} {ta : TA} {K : PySem.W.Frag}
theorem ws_for_rangeX {α : Type} (C : α → DEnv) (J : Nat → α → Prop) (a0 : α) (h : WA T ta s ρ fun xs s1 => ∃ n : Int, xs = [.int n] ∧ n ≤ 1000000 ∧ -1000000 ≤ n ∧ LeE (C a0) ρ ∧ J 0 a0 ∧
      (∀ (i : Nat) s' a, (i : Int) < n → J i a → WG T g (.int (i : Int)) s' (C a) fun ρ2 s2 => WS T tb s2 ρ2 R fun ρ' _ => ∃ a', J (i + 1) a' ∧ LeE (C a') ρ') ∧ ∀ s' a, J n.toNat a → N (C a) s') : WS T (tFor (iRng1 ta) g tb) s ρ R N := by
  refine ws_ends (N' := N) (ws_for_range fun A0 H0 B σ H c Q k => h A0 H0 B σ H c Q fun vs H' xs s1 ⟨n, e, h1, h2, le, j0, hs, q⟩ => k vs H' xs s1 ⟨n, e, h1, h2, fun i ρ' _ => ∃ a, J i a ∧ LeE (C a) ρ', ⟨a0, j0, le⟩, fun i ρ' s' hi ⟨a, hj, le'⟩ => ?_, fun ρ' s' ⟨a, hj, le'⟩ => ⟨_, le', q s' a hj⟩⟩)
  exact fun A0 H0 B σ H c v d' Q k => hs i s' a hi hj A0 H0 B σ H (c.weak le') v d' Q k
theorem ws_for_listX {α : Type} (C : α → DEnv) (J : Nat → α → Prop) (a0 : α) (h : WE T tl s ρ fun x s1 => ∃ ds, x = .list ds ∧ LeE (C a0) ρ ∧ J 0 a0 ∧ (∀ (i : Nat) d s' a, ds[i]? = some d → J i a → WG T g d s' (C a) fun ρ2 s2 => WS T tb s2 ρ2 R fun ρ' _ => ∃ a', J (i + 1) a' ∧ LeE (C a') ρ') ∧ ∀ s' a, J ds.length a → N (C a) s') :
    WS T (tFor (iSeq K tl) g tb) s ρ R N := by
  refine ws_ends (N' := N) (ws_for_list (WE.mono h fun x s1 ⟨ds, e, le, j0, hs, q⟩ => ⟨ds, e, fun i ρ' _ => ∃ a, J i a ∧ LeE (C a) ρ', ⟨a0, j0, le⟩, fun i d ρ' s' hi ⟨a, hj, le'⟩ => ?_, fun ρ' s' ⟨a, hj, le'⟩ => ⟨_, le', q s' a hj⟩⟩))
  exact fun A0 H0 B σ H c v d' Q k => hs i d s' a hi hj A0 H0 B σ H (c.weak le') v d' Q k
end
/-! ### the same, going over numbers -/
def dueAt (c d : Cn) (i : Nat) : PyData := match (List.range i).find? fun n => !tellsSame c d n with
  | none => .none
  | some n => .tuple [wD (wsOf n), toldD c (wsOf n), toldD d (wsOf n)]
theorem dueAt_end (c d : Cn) : dueAt c d 256 = partD c d := rfl
theorem dueAt_step (c d : Cn) (i : Nat) : dueAt c d (i + 1) = if isNoneD (dueAt c d i) && !tellsSame c d i then .tuple [wD (wsOf i), toldD c (wsOf i), toldD d (wsOf i)] else dueAt c d i := by
  unfold dueAt
  rw [List.range_succ, List.find?_append]
  cases e : (List.range i).find? fun n => !tellsSame c d n with
  | some n => simp [isNoneD]
  | none =>
    cases h : tellsSame c d i <;> simp [isNoneD, h]
def sameAt (c d : Cn) (i : Nat) : Bool := (List.range i).all fun n : Nat => decide (c.val (wsOf n) = d.val (wsOf n))
theorem sameAt_end (c d : Cn) : sameAt c d 256 = sameWorth c d := rfl
theorem sameAt_step (c d : Cn) (i : Nat) : sameAt c d (i + 1) = (sameAt c d i && decide (c.val (wsOf i) = d.val (wsOf i))) := by
  unfold sameAt
  rw [List.range_succ, List.all_append]
  simp
theorem partD_comm (c d : Cn) : partD d c = match partN c d with
  | none => .none
  | some n => .tuple [wD (wsOf n), toldD d (wsOf n), toldD c (wsOf n)] := by
  unfold partD
  rw [partN_comm d c]
theorem isNone_part (c d : Cn) : isNoneD (partD c d) = (partN c d).isNone := by unfold partD; cases partN c d <;> rfl
/-- what is told may be changed, if there is something -/
theorem mut_append2 {K : PySem.W.Frag} {i : Nat} {a b n : Int} {ds es ys : List PyData} (h1 : atI ds a = some (.tuple es)) (h2 : atI es b = some (.list ys)) (hl : ys.length < 100000) : MutOk (tDrop (tBM K "list" rAppend (tOp (rIx K) (tOp (rIx K) (tVar i) (tC (.int a))) (tC (.int b))) (tCons (tC (.int n)) tNil))) i (.tuple ds) := fun G v σ H D hv d e _ k => by
  cases d with
  | tup ha hs =>
    obtain ⟨u, q1, q2⟩ := hs.at_ h1
    cases q2 with
    | tup hb hu =>
      obtain ⟨u2, q3, q4⟩ := hu.at_ h2
      cases q4 with
      | @lst p us _ hp hw =>
        exact ⟨_, hv, .inr (.inl ⟨_, _, a, .ref _, rfl, rfl, SqT.of (e _ _ ha), q1, .inr (.inl ⟨_, _, b, .ref p, rfl, rfl, SqT.of (e _ _ hb), q3, Or.inl ⟨rfl, _, SqL.of (e _ _ hp)⟩, ⟨p, us, _, rfl, rfl, e _ _ hp, Nat.lt_of_lt_of_le (by rw [hw.len]; exact hl) (by decide), k p us _ hp⟩⟩)⟩)⟩
theorem mut_ifSome {tm : TS} {i : Nat} {x : PyData} (h : isNoneD x = false → MutOk tm i x) : MutOk (tIfS (tTest (tOp rNotN (tVar i) (tC .non))) tm tNext) i x := fun G v σ H D hv d e n k => by
  refine ⟨v, hv, rfl, _, rfl, ?_⟩
  have q := d.isN
  rw [q]
  cases z : isNoneD x with
  | true => exact n
  | false => exact h z G v σ H D hv d e n k
/-! and, both sides known -/
section
variable {T : Sto} {s : T.S} {ρ : DEnv} {Φ : PyData → T.S → Prop} {Ψ : Bool → T.S → Prop} {t u : TT} {ta tb : TE}
theorem wp_andV2 (h : WE T ta s ρ fun x s1 => ∃ b, x = .bool b ∧ ∃ b2, (b = true → WE T tb s1 ρ fun y s2 => y = .bool b2 ∧ s2 = s1) ∧ Φ (.bool (b && b2)) s1) : WE T (tAndV ta tb) s ρ Φ :=
  wp_andV (WE.mono h fun x s1 ⟨b, e, b2, h1, h2⟩ => ⟨b, e, by
    cases b with
    | true => exact WE.mono (h1 rfl) fun y s2 ⟨e1, e2⟩ => by rw [e1, e2]; exact h2
    | false => exact h2⟩)
theorem wt_and2 (h : WT T t s ρ fun b s1 => ∃ b2, (b = true → WT T u s1 ρ fun c s2 => c = b2 ∧ s2 = s1) ∧ Ψ (b && b2) s1) : WT T (tAnd t u) s ρ Ψ :=
  wt_and fun A0 H0 B σ H c Q k => h A0 H0 B σ H c Q fun b H' s1 ⟨b2, h1, h2⟩ e a => k b H' s1 (by
    cases b with
    | true => exact fun A0 H0 B σ H c Q k => h1 rfl A0 H0 B σ H c Q fun b' H' s2 ⟨e1, e2⟩ e a => k b' H' s2 (by rw [e1, e2]; exact h2) e a
    | false => exact h2) e a
end
end J

namespace J
open PySem L2
/-! ### all worths -/
def allB : Nat → List (List Int)
  | 0 => [[]]
  | k + 1 => (allB k).flatMap fun w => [w ++ [0], w ++ [1]]
def AW : List (List Int) := (List.range 256).map fun n : Nat => wsOf (n : Int)
theorem allB_8 : allB 8 = AW := by decide +kernel
theorem allB_len : ∀ k, (allB k).length = 2 ^ k
  | 0 => rfl
  | k + 1 => by
    have h : ∀ l : List (List Int), (l.flatMap fun w => [w ++ [0], w ++ [1]]).length = l.length * 2 := fun l => by
      induction l with
      | nil => rfl
      | cons a r ih => rw [List.flatMap_cons, List.length_append, ih]; show 2 + _ = (r.length + 1) * 2; omega
    show ((allB k).flatMap _).length = _
    rw [h, allB_len k, Nat.pow_succ]
theorem allB_item : ∀ k, ∀ w ∈ allB k, w.length = k
  | 0, w, h => by simp [allB] at h; rw [h]; rfl
  | k + 1, w, h => by
    obtain ⟨v, hv, h⟩ := List.mem_flatMap.mp h
    have := allB_item k v hv
    simp only [List.mem_cons, List.not_mem_nil, or_false] at h
    rcases h with rfl | rfl <;> simp [this]
theorem AW_get {i : Nat} {d : PyData} (h : (AW.map wD)[i]? = some d) : i < 256 ∧ d = wD (wsOf i) := by
  have hi := (List.getElem?_eq_some_iff.mp h).1
  have hl : (AW.map wD).length = 256 := by simp [AW]
  rw [hl] at hi
  unfold AW at h
  rw [List.getElem?_map, List.getElem?_map, List.getElem?_range hi] at h
  exact ⟨hi, (Option.some.inj h).symm⟩
/-! ### a written tuple of the module -/
def KTup (K : PySem.W.Frag) (a : Addr) (xs : List V) : Prop := ∃ (o : Obj) (its : Array Value) (n : Nat), K.lookup a = some o ∧ o.cls = .type "tuple" ∧ o.data = .seq its n ∧ its.size ≤ sizeLine ∧ Vals xs its.toList
theorem KTup.at_ {K : PySem.W.Frag} {a : Addr} {xs : List V} {H : Hp} (h : KTup K a xs) : SqT K H a xs := .inr h
section
variable {T : Sto} {s : T.S} {ρ : DEnv} {Φ : PyData → T.S → Prop} {te : TE} {K : PySem.W.Frag} {a : Addr}
theorem wp_inK {x1 x2 : Str} (kp : KTup K a [.str x1, .str x2]) (h : WE T te s ρ fun x s1 => ∃ w : Str, x = .str w ∧ Φ (.bool (x1 == w || x2 == w)) s1) : WE T (tOp (rInU K) te (tC (.ref a))) s ρ Φ := fun A0 H0 B σ H c Q k =>
  h A0 H0 B σ H c _ fun v H1 x s1 ⟨w, e, q⟩ e1 a1 d1 => by
    subst e
    cases d1
    refine .inl ⟨a, _, rfl, .inr kp.at_, rfl, rfl, ?_⟩
    have e : inV (.str w) [.str x1, .str x2] = (x1 == w || x2 == w) := by
      show ((x1 == w) || ((x2 == w) || false)) = _
      rw [Bool.or_false]
    show Q (.bl (inV (.str w) [.str x1, .str x2])) H1
    rw [e]
    exact k _ H1 _ s1 q e1 a1 (.bl _)
end
/-! ### sides exchanged -/
theorem Cn.pairs_looks : ∀ c : Cn, c.pairs + 1 = c.looks
  | .look _ => rfl
  | .nt c => c.pairs_looks
  | .pr _ x y => by have := x.pairs_looks; have := y.pairs_looks; show x.pairs + y.pairs + 1 + 1 = x.looks + y.looks; omega
def Cn.turn : Cn → List Int → Cn
  | .look i, _ => .look i
  | .nt c, ts => .nt (c.turn ts)
  | .pr b x y, ts => if ts.headD 0 = 1 then .pr b (y.turn (ts.drop (1 + x.pairs))) (x.turn (ts.drop 1)) else .pr b (x.turn (ts.drop 1)) (y.turn (ts.drop (1 + x.pairs)))
theorem Cn.turn_cons (b : Bool) (x y : Cn) (t : Int) (ts : List Int) : (Cn.pr b x y).turn (t :: ts) = if t = 1 then .pr b (y.turn (ts.drop x.pairs)) (x.turn ts) else .pr b (x.turn ts) (y.turn (ts.drop x.pairs)) := by
  rw [Cn.turn, Nat.add_comm 1 x.pairs]
  rfl
theorem Cn.turn_all : ∀ (c : Cn) (ts : List Int), (c.turn ts).looks = c.looks ∧ (c.turn ts).pairs = c.pairs ∧ (c.turn ts).deep = c.deep ∧ (c.ok → (c.turn ts).ok)
  | .look _, _ => ⟨rfl, rfl, rfl, fun z => z⟩
  | .nt c, ts => by
    obtain ⟨h1, h2, h3, h4⟩ := c.turn_all ts
    exact ⟨h1, h2, by show (c.turn ts).deep + 1 = c.deep + 1; rw [h3], h4⟩
  | .pr b x y, ts => by
    obtain ⟨h1, h2, h3, h4⟩ := x.turn_all (ts.drop 1)
    obtain ⟨g1, g2, g3, g4⟩ := y.turn_all (ts.drop (1 + x.pairs))
    unfold Cn.turn
    split
    · refine ⟨?_, ?_, ?_, fun z => ⟨g4 z.2, h4 z.1⟩⟩
      · show (y.turn _).looks + (x.turn _).looks = x.looks + y.looks; omega
      · show (y.turn _).pairs + (x.turn _).pairs + 1 = x.pairs + y.pairs + 1; omega
      · show max (y.turn _).deep (x.turn _).deep + 1 = max x.deep y.deep + 1; omega
    · refine ⟨?_, ?_, ?_, fun z => ⟨h4 z.1, g4 z.2⟩⟩
      · show (x.turn _).looks + (y.turn _).looks = x.looks + y.looks; omega
      · show (x.turn _).pairs + (y.turn _).pairs + 1 = x.pairs + y.pairs + 1; omega
      · show max (x.turn _).deep (y.turn _).deep + 1 = max x.deep y.deep + 1; omega
theorem Cn.turn_take : ∀ (c : Cn) (ts : List Int) (n : Nat), c.pairs ≤ n → c.turn (ts.take n) = c.turn ts
  | .look _, _, _, _ => rfl
  | .nt c, ts, n, h => by show Cn.nt _ = Cn.nt _; rw [c.turn_take ts n h]
  | .pr b x y, ts, n, h => by
    have h : x.pairs + y.pairs + 1 ≤ n := h
    have e1 : x.turn ((ts.take n).drop 1) = x.turn (ts.drop 1) := by rw [List.drop_take]; exact x.turn_take _ _ (by omega)
    have e2 : y.turn ((ts.take n).drop (1 + x.pairs)) = y.turn (ts.drop (1 + x.pairs)) := by rw [List.drop_take]; exact y.turn_take _ _ (by omega)
    have e3 : (ts.take n).headD 0 = ts.headD 0 := by
      cases ts with
      | nil => simp
      | cons t r => cases n with
        | zero => omega
        | succ n => rfl
    unfold Cn.turn
    rw [e1, e2, e3]
theorem Cn.turn_not : ∀ (c : Cn) (ts : List Int), (∀ t ∈ ts, t ≠ 1) → c.turn ts = c
  | .look _, _, _ => rfl
  | .nt c, ts, h => by show Cn.nt _ = _; rw [c.turn_not ts h]
  | .pr b x y, ts, h => by
    unfold Cn.turn
    have h0 : ¬ ts.headD 0 = 1 := by
      cases ts with
      | nil => exact fun z => by cases z
      | cons t r => exact h t (List.mem_cons_self ..)
    rw [if_neg h0, x.turn_not _ fun t ht => h t (List.mem_of_mem_drop ht), y.turn_not _ fun t ht => h t (List.mem_of_mem_drop ht)]
/-! ### chances -/
structure Cs (cs : List Int) : Prop where
  len : cs.length = 8
  up : ∀ c ∈ cs, 0 ≤ c ∧ c ≤ 100
def getI (l : List Int) (i : Nat) : Int := l.getD i 0
theorem at_getI {l : List Int} {i : Nat} (h : i < l.length) : atI (l.map PyData.int) (i : Int) = some (.int (getI l i)) ∧ getI l i ∈ l := by
  have e : l[i]? = some l[i] := List.getElem?_eq_getElem h
  have e2 : getI l i = l[i] := by unfold getI; rw [List.getD_eq_getElem?_getD, e]; rfl
  rw [e2]
  exact ⟨atI_nat (by rw [List.getElem?_map, e]; rfl), List.getElem_mem h⟩
def fac (cs ws : List Int) (k : Nat) : Int := if getI ws k = 1 then getI cs k else 100 - getI cs k
def timesTo (cs ws : List Int) : Nat → Int
  | 0 => 1
  | k + 1 => timesTo cs ws k * fac cs ws k
def times (cs ws : List Int) : Int := timesTo cs ws 8
theorem fac_le {cs ws : List Int} (h : Cs cs) {k : Nat} (hk : k < 8) : 0 ≤ fac cs ws k ∧ fac cs ws k ≤ 100 := by
  have := h.up _ (at_getI (l := cs) (i := k) (by rw [h.len]; exact hk)).2
  unfold fac
  split <;> omega
theorem timesTo_nonneg {cs ws : List Int} (h : Cs cs) : ∀ k, k ≤ 8 → 0 ≤ timesTo cs ws k
  | 0, _ => (show (0 : Int) ≤ 1 by decide)
  | k + 1, hk => Int.mul_nonneg (timesTo_nonneg h k (by omega)) (fac_le h (by omega)).1
/-- worths, and how many times they come -/
def wt (cs : List Int) (n : Nat) : List Int × Int := (wsOf (n : Int), times cs (wsOf (n : Int)))
def wts (cs : List Int) : List (List Int × Int) := ((List.range 256).map (wt cs)).filter fun p => decide (0 < p.2)
def wtD (p : List Int × Int) : PyData := .tuple [wD p.1, .int p.2]
theorem wts_ws {cs : List Int} {p : List Int × Int} (h : p ∈ wts cs) : Ws p.1 := by
  obtain ⟨n, _, rfl⟩ := List.mem_map.mp (List.mem_filter.mp h).1
  exact wsOf_ws _
theorem wts_len (cs : List Int) : (wts cs).length ≤ 256 := Nat.le_trans (List.length_filter_le _ _) (by simp)
/-- a sum over all worths -/
def sumTo (f : Nat → Int) (n : Nat) : Int := ((List.range n).map f).sum
theorem sumTo_zero (f : Nat → Int) : sumTo f 0 = 0 := rfl
theorem sumTo_succ (f : Nat → Int) (n : Nat) : sumTo f (n + 1) = sumTo f n + f n := by
  unfold sumTo
  rw [List.range_succ, List.map_append, List.sum_append]
  simp
theorem sum_filter {cs : List Int} (h : Cs cs) (g : List Int → Int) : ((wts cs).map fun p => p.2 * g p.1).sum = sumTo (fun n => times cs (wsOf (n : Int)) * g (wsOf (n : Int))) 256 := by
  unfold sumTo wts
  have key : ∀ l : List Nat, (((l.map (wt cs)).filter fun p => decide (0 < p.2)).map fun p => p.2 * g p.1).sum = (l.map fun n : Nat => times cs (wsOf (n : Int)) * g (wsOf (n : Int))).sum := fun l => by
    induction l with
    | nil => rfl
    | cons n r ih =>
      rw [List.map_cons, List.map_cons, List.sum_cons, ← ih]
      by_cases z : 0 < times cs (wsOf (n : Int))
      · rw [List.filter_cons, if_pos (by exact decide_eq_true z), List.map_cons, List.sum_cons]
        rfl
      · have z0 : times cs (wsOf (n : Int)) = 0 := by
          have := timesTo_nonneg (ws := wsOf (n : Int)) h 8 (Nat.le_refl _)
          unfold times at z ⊢
          omega
        rw [List.filter_cons, if_neg (by show ¬ decide (0 < times cs (wsOf (n : Int))) = true; rw [decide_eq_true_eq]; exact z), z0, Int.zero_mul, Int.zero_add]
  exact key _
def looksF (c : Cn) (ws : List Int) : Int := ((c.seen ws).length : Int)
def jumpsF (c : Cn) (f : Int) (ws : List Int) : Int := (runOf (c.rows0 f) ws).2.2
def looksN (c : Cn) (cs : List Int) : Int := ((wts cs).map fun p => p.2 * looksF c p.1).sum
def jumpsN (c : Cn) (f : Int) (cs : List Int) : Int := ((wts cs).map fun p => p.2 * jumpsF c f p.1).sum
def unWt : PyData → List Int × Int
  | .tuple [w, .int t] => (unW w, t)
  | _ => ([], 0)
theorem unWt_D (p : List Int × Int) : unWt (wtD p) = p := by
  show (unW (wD p.1), p.2) = p
  rw [unW_D]
theorem map_wt (l : List (List Int × Int)) (g : List Int × Int → Int) : (l.map wtD).map (fun d => PyData.int (g (unWt d))) = (l.map g).map PyData.int := by
  rw [List.map_map, List.map_map]
  exact List.map_congr_left fun p _ => by show PyData.int (g (unWt (wtD p))) = _; rw [unWt_D]; rfl
/-! ### lists of one's own, changed at a place, given out -/
section
variable {T : Sto} {A0 : Addr → Prop} {H0 : Hp} {B : Addr → Prop} {σ : L2.St} {H : Hp} {s : T.S} {ρ : DEnv} {i j : Nat} {xs : List PyData}
theorem ixN_j {n j : Nat} (h : j < n) : ixN n (j : Int) = some j := by
  unfold ixN
  rw [if_pos (by omega), if_pos (by omega)]
  rfl
theorem DDs.set_ {H : Hp} : ∀ {vs : List V} {ds : List PyData} (j : Nat) {v : V} {d : PyData}, DDs H vs ds → DD H v d → DDs H (vs.set j v) (ds.set j d)
  | [], _, _, _, _, h, _ => by cases h; exact .nil
  | u :: vs, _, 0, _, _, h, k => by
    cases h with
    | cons h1 h2 => exact .cons k h2
  | u :: vs, _, j + 1, _, _, h, k => by
    cases h with
    | cons h1 h2 => exact .cons h1 (DDs.set_ j h2 k)
theorem Cxt.own (c : Cxt T A0 H0 B σ H s ρ) (ho : ρ[i]? = some (some (.own xs))) : ∃ p vs, σ[i]? = some (some (.ref p)) ∧ H p = some (.lst vs) ∧ DDs (cut B H) vs xs ∧ ∀ us ys, DDs (cut B H) us ys → Cxt T A0 H0 B σ (upd H p (.lst us)) s (ρ.set i (some (.own ys))) := by
  obtain ⟨p, vs, h1, h2, h3, h5, h6, h7⟩ := c.sl i _ ho
  have hi := join_some h1
  refine ⟨p, vs, hi, h6, h7, fun us ys hu => ?_⟩
  have fr : Fr (fun a => a = p) H (upd H p (.lst us)) := fun b o q z => by rw [upd_ne z]; exact q
  have sc : Same (cut B H) (cut B (upd H p (.lst us))) := fr.cut fun b z => by rw [z]; exact h2
  have hil : i < ρ.length := (List.getElem?_eq_some_iff.mp ho).1
  have iso : ∀ (j : Nat) zs, (ρ.set i (some (.own ys)))[j]? = some (some (.own zs)) → ∃ zs, ρ[j]? = some (some (.own zs)) := fun j zs q => by
    rw [List.getElem?_set] at q
    by_cases e' : i = j
    · subst e'; exact ⟨_, ho⟩
    · rw [if_neg e'] at q; exact ⟨_, q⟩
  refine ⟨c.fb, fun b z => ?_, T.loc s H _ (fun b o hb q => ?_) c.at_, by rw [List.length_set]; exact c.ln, fun j w q => ?_, fun b o q z => ?_, c.ab, c.d0, c.ba, fun j k ys' zs q q1 q2 q3 q4 => ?_⟩
  · by_cases e' : b = p
    · rw [e', upd_same]; exact fun z => nomatch z
    · rw [upd_ne e']; exact c.dm b z
  · rw [upd_ne fun z => h3 (by rw [← z]; exact hb)]; exact q
  · rw [List.getElem?_set] at q
    by_cases e' : i = j
    · subst e'
      rw [if_pos rfl, if_pos hil] at q
      cases q
      exact ⟨p, _, h1, h2, h3, h5, upd_same, DDs.mono sc _ _ hu⟩
    · rw [if_neg e'] at q
      have z := c.sl j w q
      cases w with
      | d x => obtain ⟨v, z1, z2⟩ := z; exact ⟨v, z1, DD.mono sc _ _ z2⟩
      | v x => exact z
      | own ys =>
        obtain ⟨p', vs', z1, z2, z3, z5, z6, z7⟩ := z
        have np : p' ≠ p := fun zz => by
          subst zz
          exact c.ow i j xs ys p' ho q e' hi (join_some z1)
        exact ⟨p', vs', z1, z2, z3, z5, by rw [upd_ne np]; exact z6, DDs.mono sc _ _ z7⟩
  · rw [upd_ne fun zz => by rw [zz, h5] at q; cases q]
    exact c.fr b o q z
  · obtain ⟨ys1, y1⟩ := iso j ys' q1
    obtain ⟨zs1, y2⟩ := iso k zs q2
    exact c.ow j k ys1 zs1 q y1 y2 q3 q4
theorem Cxt.pub (c : Cxt T A0 H0 B σ H s ρ) (ho : ρ[j]? = some (some (.own xs))) : ∃ B', Cxt T A0 H0 B' σ H s (ρ.set j (some (.d (.list xs)))) := by
  obtain ⟨p, vs, h1, h2, h3, h5, h6, h7⟩ := c.sl j _ ho
  have hj := join_some h1
  have hil : j < ρ.length := (List.getElem?_eq_some_iff.mp ho).1
  have sc : Same (cut B H) (cut (fun a => B a ∧ a ≠ p) H) := cut_mono fun a z => z.1
  have dp : DD (cut (fun a => B a ∧ a ≠ p) H) (.ref p) (.list xs) := .lst (cut_of h6 fun z => z.2 rfl) (DDs.mono sc _ _ h7)
  have own : ∀ (k : Nat) ys, (ρ.set j (some (.d (.list xs))))[k]? = some (some (.own ys)) → j ≠ k ∧ ρ[k]? = some (some (.own ys)) := fun k ys q => by
    rw [List.getElem?_set] at q
    by_cases e : j = k
    · rw [if_pos e, if_pos hil] at q; cases q
    · rw [if_neg e] at q; exact ⟨e, q⟩
  refine ⟨fun a => B a ∧ a ≠ p, ⟨fun a z => ⟨c.fb a z, fun zz => h3 (by rw [← zz]; exact z)⟩, fun a z => c.dm a z.1, c.at_, by rw [List.length_set]; exact c.ln, fun k w q => ?_, c.fr, fun a z => ⟨c.ab a z, fun zz => c.d0 a z (by rw [zz]; exact h5)⟩, c.d0, fun a z => c.ba a z.1, fun k l ys zs q q1 q2 q3 q4 => ?_⟩⟩
  · rw [List.getElem?_set] at q
    by_cases e : j = k
    · rw [if_pos e, if_pos hil] at q
      cases q
      exact ⟨.ref p, by rw [← e]; exact h1, dp⟩
    · rw [if_neg e] at q
      have z := c.sl k w q
      cases w with
      | d x => obtain ⟨v, z1, z2⟩ := z; exact ⟨v, z1, DD.mono sc _ _ z2⟩
      | v x => exact z
      | own ys =>
        obtain ⟨p', vs', z1, z2, z3, z5, z6, z7⟩ := z
        have np : p' ≠ p := fun zz => by
          subst zz
          exact c.ow j k xs ys p' ho q e hj (join_some z1)
        exact ⟨p', vs', z1, ⟨z2, np⟩, z3, z5, z6, DDs.mono sc _ _ z7⟩
  · obtain ⟨_, y1⟩ := own k ys q1
    obtain ⟨_, y2⟩ := own l zs q2
    exact c.ow k l ys zs q y1 y2 q3 q4
end
section
variable {T : Sto} {s : T.S} {ρ : DEnv} {R : PyData → T.S → Prop} {N : DEnv → T.S → Prop} {te ti : TE} {t : TS} {i j : Nat} {xs : List PyData}
/-- x[i] = e, x a list of one's own -/
theorem ws_setI (ho : ρ[i]? = some (some (.own xs))) (h : WE T te s ρ fun x s1 => WE T ti s1 ρ fun y s2 => ∃ j : Nat, y = .int (j : Int) ∧ j < xs.length ∧ N (ρ.set i (some (.own (xs.set j x)))) s2) :
    WS T (tAsg te (gSub (tVar i) ti rSetL)) s ρ R N := fun A0 H0 B σ H c D r n => by
  obtain ⟨p, vs0, hi, _, _, _⟩ := c.own ho
  refine h A0 H0 B σ H c _ fun v H1 x s1 h1 e1 a1 d1 => ⟨_, hi, h1 A0 H0 B σ H1 (c.step e1 a1) _ fun u H2 y s2 ⟨j, ey, hj, f⟩ e2 a2 d2 => ?_⟩
  subst ey
  cases d2
  obtain ⟨p', vs, q1, q2, q3, q4⟩ := ((c.step e1 a1).step e2 a2).own ho
  rw [hi] at q1
  cases q1
  exact ⟨p, vs, _, j, rfl, rfl, q2, ixN_j (by rw [q3.len]; exact hj), n B σ _ s2 _ f (q4 _ _ (DDs.set_ j q3 (DD.mono (e2.cut c.fb) _ _ d1)))⟩
/-- from here on a list of one's own is data -/
theorem ws_pub (ho : ρ[j]? = some (some (.own xs))) (h : WS T t s (ρ.set j (some (.d (.list xs)))) R N) : WS T t s ρ R N := fun A0 H0 B σ H c D r n => by
  obtain ⟨B', c'⟩ := c.pub ho
  exact h A0 H0 B' σ H c' D r n
end
/-! ### comprehensions with draws -/
section
variable {T : Sto} {s : T.S} {ρ : DEnv} {te : TE} {vs : List Nat} {Φ : PyData → T.S → Prop} {g : TG} {ta : TA}
theorem wp_lcP_range (P : PyData → Prop) (gi : GIn g vs) (h : WA T ta s ρ fun xs s1 => ∃ n : Nat, xs = [.int (n : Int)] ∧ n ≤ 10000 ∧ (∀ (i : Nat) s', i < n → WG T g (.int (i : Int)) s' (wipeE ρ vs) fun ρ2 s2 => WE T te s2 ρ2 fun y _ => P y) ∧ ∀ ys s', ys.length = n → (∀ y ∈ ys, P y) → Φ (.list ys) s') :
    WE T (tLc (iRng1 ta) g tYes te vs) s ρ Φ := wp_lc_range gi fun A0 H0 B σ H c Q k => h A0 H0 B σ H c Q fun us H' xs s1 ⟨n, e, hn, hs, q⟩ => k us H' xs s1 ⟨(n : Int), e, by omega, by omega, fun i acc s' => acc.length = i ∧ ∀ y ∈ acc, P y, ⟨rfl, fun _ z => nomatch z⟩, fun i acc s' hi ⟨e1, e2⟩ => by
      have hlen : acc.length < 100000 := by rw [e1]; omega
      intro A0 H0 B σ H c v hv Q k
      refine hs i s' (by omega) A0 H0 B σ H c v hv Q fun σ' ρ' hw c' => k σ' ρ' ?_ c'
      refine wt_yes ?_
      show WE T te _ ρ' _
      refine WE.mono hw fun y s4 hy => ⟨hlen, by rw [List.length_append, e1]; rfl, fun z hz => ?_⟩
      rcases List.mem_append.mp hz with hz | hz
      · exact e2 z hz
      · rw [List.mem_singleton.mp hz]; exact hy, fun acc s' ⟨e1, e2⟩ => q acc s' (by omega) e2⟩
theorem ints_of {P : Int → Prop} : ∀ {ys : List PyData}, (∀ y ∈ ys, ∃ i : Int, y = .int i ∧ P i) → ∃ ns : List Int, ys = ns.map .int ∧ ∀ n ∈ ns, P n
  | [], _ => ⟨[], rfl, fun _ z => nomatch z⟩
  | y :: ys, h => by
    obtain ⟨i, rfl, hi⟩ := h y (List.mem_cons_self ..)
    obtain ⟨ns, rfl, hn⟩ := ints_of fun z hz => h z (List.mem_cons_of_mem _ hz)
    refine ⟨i :: ns, rfl, fun n hm => ?_⟩
    rcases List.mem_cons.mp hm with rfl | hm
    · exact hi
    · exact hn n hm
theorem zeros (n : Nat) : (List.replicate n [PyData.int 0]).flatten = (List.replicate n (0 : Int)).map .int := by
  induction n with
  | zero => rfl
  | succ n ih => rw [List.replicate_succ, List.replicate_succ, List.flatten_cons, ih]; rfl
theorem at_fac {c w : Int} (h : w = 0 ∨ w = 1) : atI [PyData.int (100 - c), .int c] w = some (.int (if w = 1 then c else 100 - c)) := by
  rcases h with rfl | rfl <;> rfl
end
end J

namespace J
open PySem L2
/-! ### the contrary -/
def Cn.dual : Cn → Cn
  | .look i => .nt (.look i)
  | .nt c => .nt c.dual
  | .pr b x y => .pr (!b) x.dual y.dual
theorem Cn.dual_all : ∀ c : Cn, c.dual.looks = c.looks ∧ c.dual.deep ≤ c.deep + 1 ∧ (c.ok → c.dual.ok)
  | .look _ => ⟨rfl, Nat.le_refl _, fun z => z⟩
  | .nt c => by
    obtain ⟨h1, h2, h3⟩ := c.dual_all
    exact ⟨h1, Nat.succ_le_succ h2, h3⟩
  | .pr b x y => by
    obtain ⟨h1, h2, h3⟩ := x.dual_all
    obtain ⟨g1, g2, g3⟩ := y.dual_all
    refine ⟨?_, ?_, fun z => ⟨h3 z.1, g3 z.2⟩⟩
    · show x.dual.looks + y.dual.looks = x.looks + y.looks; omega
    · show max x.dual.deep y.dual.deep + 1 ≤ max x.deep y.deep + 1 + 1; omega
theorem Cn.dual_is {ws : List Int} (hw : Ws ws) : ∀ c : Cn, c.ok → c.dual.val ws = 1 - c.val ws ∧ c.dual.seen ws = c.seen ws
  | .look _, _ => ⟨rfl, rfl⟩
  | .nt c, ok => by
    obtain ⟨h1, h2⟩ := c.dual_is hw ok
    exact ⟨by show 1 - c.dual.val ws = 1 - (1 - c.val ws); rw [h1], h2⟩
  | .pr b x y, ok => by
    obtain ⟨h1, h2⟩ := x.dual_is hw ok.1
    obtain ⟨g1, g2⟩ := y.dual_is hw ok.2
    have hx := x.val_bit hw ok.1
    have hs : stops (!b) = 1 - stops b := by cases b <;> rfl
    by_cases h : x.val ws = stops b
    · have h' : x.dual.val ws = stops (!b) := by omega
      rw [(Cn.pr_stop h).1, (Cn.pr_stop h).2]
      exact ⟨(Cn.pr_stop h').1.trans h1, (Cn.pr_stop h').2.trans h2⟩
    · have h' : ¬ x.dual.val ws = stops (!b) := by omega
      rw [(Cn.pr_go h).1, (Cn.pr_go h).2]
      exact ⟨(Cn.pr_go h').1.trans g1, (Cn.pr_go h').2.trans (by rw [h2, g2])⟩
theorem Cn.dual_rows : ∀ (c : Cn) (b y n : Int), c.dual.rows b n y = c.rows b y n
  | .look _, _, _, _ => rfl
  | .nt c, b, y, n => c.dual_rows b n y
  | .pr true x d, b, y, n => by
    show x.dual.rows b n (b + x.dual.looks) ++ d.dual.rows (b + x.dual.looks) n y = x.rows b (b + x.looks) n ++ d.rows (b + x.looks) y n
    rw [x.dual_rows, d.dual_rows, x.dual_all.1]
  | .pr false x d, b, y, n => by
    show x.dual.rows b (b + x.dual.looks) y ++ d.dual.rows (b + x.dual.looks) n y = x.rows b y (b + x.looks) ++ d.rows (b + x.looks) y n
    rw [x.dual_rows, d.dual_rows, x.dual_all.1]
def Cn.contrary (c : Cn) : Cn := .nt c.dual
theorem Cn.contrary_code (c : Cn) (f : Int) : c.contrary.code f = c.code f := by
  have e : c.contrary.looks = c.looks := c.dual_all.1
  unfold Cn.code Cn.yes
  rw [e]
  show (c.dual.rows _ _ _).map Row.D ++ _ = _
  rw [c.dual_rows]
theorem Cn.nt_rows (c : Cn) {f : Int} (hf : f = 0 ∨ f = 1) : (Cn.nt c).rows0 (1 - f) = c.rows0 f := by
  have h1 := Cn.yes_is (c := c) hf
  have h2 := Cn.yes_is (c := .nt c) (f := 1 - f) (by omega)
  have e : (Cn.nt c).looks = c.looks := rfl
  show c.rows 0 (2 * (Cn.nt c).looks + 1 - (Cn.nt c).yes (1 - f)) ((Cn.nt c).yes (1 - f)) = c.rows 0 (c.yes f) (2 * c.looks + 1 - c.yes f)
  rw [e] at h2 ⊢
  have a1 : (2 * (c.looks : Int) + 1 - (Cn.nt c).yes (1 - f)) = c.yes f := by omega
  have a2 : (Cn.nt c).yes (1 - f) = 2 * (c.looks : Int) + 1 - c.yes f := by omega
  rw [a1, a2]
theorem partN_same {c d : Cn} (h : ∀ n : Nat, c.val (wsOf n) = d.val (wsOf n) ∧ c.seen (wsOf n) = d.seen (wsOf n)) : partN c d = none := partN_none fun n _ => decide_eq_true (h n)
theorem Cn.contrary_same {c : Cn} (ok : c.ok) : partN c c.contrary = none := partN_same fun n => by
  obtain ⟨h1, h2⟩ := c.dual_is (wsOf_ws (n : Int)) ok
  exact ⟨by show _ = 1 - c.dual.val _; omega, h2.symm⟩
theorem Cn.twice_same (c : Cn) : partN c (.nt (.nt c)) = none := partN_same fun n => ⟨by show _ = 1 - (1 - c.val _); omega, rfl⟩
theorem Cn.not_same {c : Cn} (ok : c.ok) : sameWorth c (.nt c) = false := by
  unfold sameWorth
  rw [List.all_eq_false]
  refine ⟨0, by simp, ?_⟩
  have := c.val_bit (wsOf_ws ((0 : Nat) : Int)) ok
  rw [decide_eq_true_eq]
  show ¬ c.val _ = 1 - c.val _
  omega
/-! ### other things -/
def R8 : List Int := (List.range 8).map fun i : Nat => (i : Int)
theorem R8_mem {i : Int} : i ∈ R8 ↔ 0 ≤ i ∧ i < 8 := by
  unfold R8
  rw [List.mem_map]
  constructor
  · rintro ⟨n, hn, rfl⟩
    have := List.mem_range.mp hn
    omega
  · intro h
    exact ⟨i.toNat, List.mem_range.mpr (by omega), by omega⟩
def firstAt (t : Int) : List Int → Nat
  | [] => 0
  | x :: r => if x = t then 0 else firstAt t r + 1
theorem firstAt_mem {t : Int} : ∀ {l : List Int}, t ∈ l → firstAt t l < l.length ∧ l[firstAt t l]? = some t ∧ ∀ (m : Nat) (z : Int), m < firstAt t l → l[m]? = some z → z ≠ t
  | [], h => nomatch h
  | x :: r, h => by
    unfold firstAt
    by_cases e : x = t
    · rw [if_pos e]
      exact ⟨Nat.zero_lt_succ _, by rw [← e]; rfl, fun m z hm => absurd hm (Nat.not_lt_zero _)⟩
    · rw [if_neg e]
      have hr : t ∈ r := by
        rcases List.mem_cons.mp h with h | h
        · exact absurd h.symm e
        · exact h
      obtain ⟨h1, h2, h3⟩ := firstAt_mem hr
      refine ⟨Nat.succ_lt_succ h1, h2, fun m z hm hz => ?_⟩
      cases m with
      | zero => cases hz; exact e
      | succ m => exact h3 m z (by omega) hz
theorem firstAt_nodup {t : Int} : ∀ {l : List Int} {k : Nat}, l.Nodup → l[k]? = some t → firstAt t l = k
  | [], k, _, h => by simp at h
  | x :: r, 0, _, h => by
    cases h
    unfold firstAt
    rw [if_pos rfl]
  | x :: r, k + 1, hn, h => by
    have h : r[k]? = some t := h
    obtain ⟨n1, n2⟩ := List.nodup_cons.mp hn
    have e : ¬ x = t := fun z => n1 (by rw [z]; exact List.mem_of_getElem? h)
    unfold firstAt
    rw [if_neg e, firstAt_nodup n2 h]
theorem getI_some {l : List Int} {i : Nat} (h : i < l.length) : l[i]? = some (getI l i) := by
  unfold getI
  rw [List.getD_eq_getElem?_getD, List.getElem?_eq_getElem h]
  rfl
theorem thingAt_is (l : List Int) (i : Int) : thingAt l i = getI l i.toNat := by
  unfold thingAt getI
  rw [List.getD_eq_getElem?_getD]
theorem getI_map {f : Nat → Int} {n i : Nat} (h : i < n) : getI ((List.range n).map f) i = f i := by
  unfold getI
  rw [List.getD_eq_getElem?_getD, List.getElem?_map, List.getElem?_range h]
  rfl
theorem list_ext {a b : List Int} {n : Nat} (ha : a.length = n) (hb : b.length = n) (h : ∀ i, i < n → getI a i = getI b i) : a = b := by
  apply List.ext_getElem?
  intro i
  by_cases hi : i < n
  · rw [getI_some (by omega), getI_some (by omega), h i hi]
  · rw [List.getElem?_eq_none (by omega), List.getElem?_eq_none (by omega)]
/-- the numbers 0 to 7 in some order -/
abbrev Nm (ns : List Int) : Prop := ns.Perm R8
section
variable {ns : List Int} (h : Nm ns)
include h
theorem Nm.len : ns.length = 8 := h.length_eq
theorem Nm.at_ {k : Nat} (hk : k < 8) : 0 ≤ getI ns k ∧ getI ns k < 8 := R8_mem.mp (h.mem_iff.mp (List.mem_of_getElem? (getI_some (by rw [Nm.len h]; exact hk))))
theorem Nm.mem {t : Nat} (ht : t < 8) : (t : Int) ∈ ns := h.mem_iff.mpr (R8_mem.mpr (by omega))
theorem Nm.nodup : ns.Nodup := h.nodup_iff.mpr (by decide +kernel)
end
/-- things by their other numbers, and back -/
def pull (ns ws : List Int) : List Int := (List.range 8).map fun k => getI ws (getI ns k).toNat
def push (ns cs : List Int) : List Int := (List.range 8).map fun t : Nat => getI cs (firstAt (t : Int) ns)
theorem push_at {ns : List Int} (h : Nm ns) (cs : List Int) {k : Nat} (hk : k < 8) : getI (push ns cs) (getI ns k).toNat = getI cs k := by
  have h1 := h.at_ hk
  unfold push
  rw [getI_map (by omega)]
  have e : (((getI ns k).toNat : Nat) : Int) = getI ns k := by omega
  rw [e, firstAt_nodup h.nodup (getI_some (by rw [h.len]; exact hk))]
theorem pull_at (ns ws : List Int) {k : Nat} (hk : k < 8) : getI (pull ns ws) k = getI ws (getI ns k).toNat := getI_map hk
theorem pull_push {ns ws : List Int} (h : Nm ns) (hl : ws.length = 8) : pull ns (push ns ws) = ws := list_ext (n := 8) (by simp [pull]) hl fun k hk => by rw [pull_at _ _ hk, push_at h _ hk]
theorem pull_inj {ns a b : List Int} (h : Nm ns) (ha : a.length = 8) (hb : b.length = 8) (e : pull ns a = pull ns b) : a = b := list_ext ha hb fun t ht => by
  obtain ⟨h1, h2, _⟩ := firstAt_mem (h.mem ht)
  have hk : firstAt (t : Int) ns < 8 := by rw [← h.len]; exact h1
  have e1 : getI ns (firstAt (t : Int) ns) = (t : Int) := by rw [getI_some h1] at h2; exact Option.some.inj h2
  have e2 := pull_at ns a hk
  have e3 := pull_at ns b hk
  rw [e1] at e2 e3
  rw [e, e3] at e2
  exact e2.symm
theorem pull_ws {ns ws : List Int} (h : Nm ns) (hw : Ws ws) : Ws (pull ns ws) := ⟨by simp [pull], fun w hm => by
  obtain ⟨k, hk, rfl⟩ := List.mem_map.mp hm
  have := h.at_ (List.mem_range.mp hk)
  exact hw.bit _ (at_getI (by rw [hw.len]; omega)).2⟩
theorem push_up {ns cs : List Int} (h : Nm ns) {P : Int → Prop} (hl : cs.length = 8) (hc : ∀ c ∈ cs, P c) : (push ns cs).length = 8 ∧ ∀ c ∈ push ns cs, P c := ⟨by simp [push], fun w hm => by
  obtain ⟨t, ht, rfl⟩ := List.mem_map.mp hm
  have h1 := (firstAt_mem (h.mem (List.mem_range.mp ht))).1
  rw [h.len] at h1
  exact hc _ (at_getI (by rw [hl]; exact h1)).2⟩
theorem allB_mem : ∀ (k : Nat) (w : List Int), w ∈ allB k ↔ w.length = k ∧ ∀ b ∈ w, b = 0 ∨ b = 1
  | 0, w => by
    show w ∈ [[]] ↔ _
    rw [List.mem_singleton]
    constructor
    · rintro rfl; exact ⟨rfl, fun _ z => nomatch z⟩
    · intro ⟨h, _⟩; exact List.eq_nil_of_length_eq_zero h
  | k + 1, w => by
    show w ∈ (allB k).flatMap _ ↔ _
    rw [List.mem_flatMap]
    constructor
    · rintro ⟨v, hv, hw⟩
      obtain ⟨h1, h2⟩ := (allB_mem k v).mp hv
      simp only [List.mem_cons, List.not_mem_nil, or_false] at hw
      rcases hw with rfl | rfl
      · refine ⟨by simp [h1], fun b hb => ?_⟩
        rcases List.mem_append.mp hb with hb | hb
        · exact h2 b hb
        · exact .inl (List.mem_singleton.mp hb)
      · refine ⟨by simp [h1], fun b hb => ?_⟩
        rcases List.mem_append.mp hb with hb | hb
        · exact h2 b hb
        · exact .inr (List.mem_singleton.mp hb)
    · intro ⟨h1, h2⟩
      have hne : w ≠ [] := fun z => by rw [z] at h1; cases h1
      have e := List.dropLast_concat_getLast hne
      refine ⟨w.dropLast, (allB_mem k _).mpr ⟨by rw [List.length_dropLast, h1]; rfl, fun b hb => h2 b ((List.dropLast_sublist w).subset hb)⟩, ?_⟩
      simp only [List.mem_cons, List.not_mem_nil, or_false]
      rcases h2 _ (List.getLast_mem hne) with z | z
      · left; rw [← z]; exact e.symm
      · right; rw [← z]; exact e.symm
theorem AW_mem {w : List Int} : w ∈ AW ↔ Ws w := by
  rw [← allB_8, allB_mem]
  exact ⟨fun ⟨a, b⟩ => ⟨a, b⟩, fun ⟨a, b⟩ => ⟨a, b⟩⟩
def toN (w : List Int) : Nat := w.foldl (fun a b => 2 * a + b.toNat) 0
theorem AW_toN : AW.map toN = List.range 256 := by decide +kernel
theorem AW_nodup : AW.Nodup := by
  have h : (AW.map toN).Nodup := by rw [AW_toN]; exact List.nodup_range
  exact (List.pairwise_map.mp h).imp fun ne e => ne (congrArg toN e)
theorem pull_perm {ns : List Int} (h : Nm ns) : (AW.map (pull ns)).Perm AW := by
  rw [List.perm_ext_iff_of_nodup ?_ AW_nodup]
  · intro w
    rw [List.mem_map]
    constructor
    · rintro ⟨v, hv, rfl⟩
      exact AW_mem.mpr (pull_ws h (AW_mem.mp hv))
    · intro hw
      have hw := AW_mem.mp hw
      obtain ⟨p1, p2⟩ := push_up h hw.len hw.bit
      exact ⟨push ns w, AW_mem.mpr ⟨p1, p2⟩, pull_push h hw.len⟩
  · unfold List.Nodup
    rw [List.pairwise_map]
    refine List.Pairwise.imp_of_mem (fun {a b} ha hb ne e => ne ?_) AW_nodup
    exact pull_inj h (AW_mem.mp ha).len (AW_mem.mp hb).len e
theorem perm_sum {a b : List Int} (h : a.Perm b) : a.sum = b.sum := by
  induction h with
  | nil => rfl
  | cons x _ ih => rw [List.sum_cons, List.sum_cons, ih]
  | swap x y l => simp only [List.sum_cons]; omega
  | trans _ _ i1 i2 => exact i1.trans i2
def prodL : List Int → Int
  | [] => 1
  | x :: r => x * prodL r
theorem perm_prod {a b : List Int} (h : a.Perm b) : prodL a = prodL b := by
  induction h with
  | nil => rfl
  | cons x _ ih => show x * _ = x * _; rw [ih]
  | swap x y l => show y * (x * prodL l) = x * (y * prodL l); rw [← Int.mul_assoc, ← Int.mul_assoc, Int.mul_comm y x]
  | trans _ _ i1 i2 => exact i1.trans i2
theorem prodL_snoc (a : List Int) (x : Int) : prodL (a ++ [x]) = prodL a * x := by
  induction a with
  | nil => show x * 1 = 1 * x; omega
  | cons y r ih => show y * prodL (r ++ [x]) = y * prodL r * x; rw [ih, Int.mul_assoc]
theorem timesTo_is (cs ws : List Int) : ∀ k, timesTo cs ws k = prodL ((List.range k).map (fac cs ws))
  | 0 => rfl
  | k + 1 => by
    rw [List.range_succ, List.map_append]
    show timesTo cs ws k * fac cs ws k = prodL (_ ++ [fac cs ws k])
    rw [prodL_snoc, timesTo_is cs ws k]
theorem times_push {ns cs ws : List Int} (h : Nm ns) : times (push ns cs) ws = times cs (pull ns ws) := by
  unfold times
  rw [timesTo_is, timesTo_is]
  have e1 : (List.range 8).map (fac (push ns cs) ws) = R8.map fun t => fac (push ns cs) ws t.toNat := by
    unfold R8
    rw [List.map_map]
    exact List.map_congr_left fun t _ => by show _ = fac _ _ ((t : Int)).toNat; rw [show ((t : Int)).toNat = t from by omega]
  have e2 : (List.range 8).map (fac cs (pull ns ws)) = ns.map fun t => fac (push ns cs) ws t.toNat := by
    have e3 : ns = (List.range 8).map (getI ns) := list_ext (n := 8) h.len (by simp) fun i hi => (getI_map hi).symm
    rw [e3, List.map_map, ← e3]
    exact List.map_congr_left fun k hk => by
      have hk := List.mem_range.mp hk
      show fac cs (pull ns ws) k = fac (push ns cs) ws (getI ns k).toNat
      unfold fac
      rw [pull_at _ _ hk, push_at h _ hk]
  rw [e1, e2]
  exact perm_prod (h.symm.map _)
/-- a sum over all worths -/
theorem sumTo_AW (g : List Int → Int) : sumTo (fun n => g (wsOf (n : Int))) 256 = (AW.map g).sum := by
  unfold sumTo AW
  rw [List.map_map]
  rfl
theorem sum_push {ns cs : List Int} (h : Nm ns) {g1 g2 : List Int → Int} (hg : ∀ ws, Ws ws → g2 ws = g1 (pull ns ws)) :
    sumTo (fun n => times (push ns cs) (wsOf (n : Int)) * g2 (wsOf (n : Int))) 256 = sumTo (fun n => times cs (wsOf (n : Int)) * g1 (wsOf (n : Int))) 256 := by
  rw [sumTo_AW (fun ws => times (push ns cs) ws * g2 ws), sumTo_AW (fun ws => times cs ws * g1 ws)]
  rw [← perm_sum ((pull_perm h).map fun ws => times cs ws * g1 ws), List.map_map]
  congr 1
  exact List.map_congr_left fun ws hw => by
    show _ = times cs (pull ns ws) * g1 (pull ns ws)
    rw [times_push h, hg ws (AW_mem.mp hw)]
/-! conditions of other things -/
def Cn.named (ns : List Int) : Cn → Cn
  | .look i => .look (thingAt ns i)
  | .nt c => .nt (c.named ns)
  | .pr b x y => .pr b (x.named ns) (y.named ns)
theorem Cn.named_all {ns : List Int} (h : Nm ns) : ∀ c : Cn, (c.named ns).looks = c.looks ∧ (c.named ns).deep = c.deep ∧ (c.ok → (c.named ns).ok)
  | .look i => ⟨rfl, rfl, fun z => by
    have z : 0 ≤ i ∧ i < 8 := z
    show 0 ≤ thingAt ns i ∧ thingAt ns i < 8
    rw [thingAt_is]
    exact h.at_ (by omega)⟩
  | .nt c => by
    obtain ⟨h1, h2, h3⟩ := c.named_all h
    exact ⟨h1, by show (c.named ns).deep + 1 = c.deep + 1; rw [h2], h3⟩
  | .pr b x y => by
    obtain ⟨h1, h2, h3⟩ := x.named_all h
    obtain ⟨g1, g2, g3⟩ := y.named_all h
    refine ⟨?_, ?_, fun z => ⟨h3 z.1, g3 z.2⟩⟩
    · show (x.named ns).looks + (y.named ns).looks = x.looks + y.looks; omega
    · show max (x.named ns).deep (y.named ns).deep + 1 = max x.deep y.deep + 1; omega
theorem thing_pull {ns ws : List Int} {i : Int} (h : 0 ≤ i ∧ i < 8) : thingAt (pull ns ws) i = thingAt ws (thingAt ns i) := by
  rw [thingAt_is, thingAt_is, thingAt_is, pull_at _ _ (by omega)]
theorem Cn.named_is (ns ws : List Int) : ∀ c : Cn, c.ok → (c.named ns).val ws = c.val (pull ns ws) ∧ (c.named ns).seen ws = (c.seen (pull ns ws)).map (thingAt ns)
  | .look i, ok => ⟨(thing_pull ok).symm, rfl⟩
  | .nt c, ok => by
    obtain ⟨h1, h2⟩ := c.named_is ns ws ok
    exact ⟨by show 1 - (c.named ns).val ws = 1 - c.val _; rw [h1], h2⟩
  | .pr b x y, ok => by
    obtain ⟨h1, h2⟩ := x.named_is ns ws ok.1
    obtain ⟨g1, g2⟩ := y.named_is ns ws ok.2
    by_cases h : x.val (pull ns ws) = stops b
    · have h' : (x.named ns).val ws = stops b := h1.trans h
      rw [(Cn.pr_stop h).1, (Cn.pr_stop h).2]
      exact ⟨(Cn.pr_stop h').1.trans h1, (Cn.pr_stop h').2.trans h2⟩
    · have h' : ¬ (x.named ns).val ws = stops b := fun z => h (h1.symm.trans z)
      rw [(Cn.pr_go h).1, (Cn.pr_go h).2, List.map_append]
      exact ⟨(Cn.pr_go h').1.trans g1, (Cn.pr_go h').2.trans (by rw [h2, g2])⟩
def Row.named (ns : List Int) (r : Row) : Row := ⟨thingAt ns r.thing, r.when_, r.to⟩
theorem rowAt_named (ns : List Int) (i b y n : Int) : (rowAt i b y n).named ns = rowAt (thingAt ns i) b y n := by
  unfold rowAt
  split <;> rfl
theorem Cn.named_rows {ns : List Int} (h : Nm ns) : ∀ (c : Cn) (b y n : Int), (c.named ns).rows b y n = (c.rows b y n).map (Row.named ns)
  | .look i, b, y, n => by show [_] = [_]; rw [rowAt_named]
  | .nt c, b, y, n => c.named_rows h b n y
  | .pr true x d, b, y, n => by
    show (x.named ns).rows b (b + (x.named ns).looks) n ++ (d.named ns).rows (b + (x.named ns).looks) y n = (x.rows b (b + x.looks) n ++ d.rows (b + x.looks) y n).map _
    rw [x.named_rows h, d.named_rows h, (x.named_all h).1, List.map_append]
  | .pr false x d, b, y, n => by
    show (x.named ns).rows b y (b + (x.named ns).looks) ++ (d.named ns).rows (b + (x.named ns).looks) y n = (x.rows b y (b + x.looks) ++ d.rows (b + x.looks) y n).map _
    rw [x.named_rows h, d.named_rows h, (x.named_all h).1, List.map_append]
theorem runF_named {ns ws : List Int} {R : List Row} (hR : ∀ r ∈ R, 0 ≤ r.thing ∧ r.thing < 8) : ∀ (n p : Nat), (runF (R.map (Row.named ns)) ws n p).2.2 = (runF R (pull ns ws) n p).2.2
  | 0, p => rfl
  | n + 1, p => by
    cases h : R[p]? with
    | none => rw [runF_out h, runF_out (by rw [List.getElem?_map, h]; rfl)]
    | some r =>
      rw [runF_in h, runF_in (r := r.named ns) (by rw [List.getElem?_map, h]; rfl)]
      have e := thing_pull (ns := ns) (ws := ws) (hR r (List.mem_of_getElem? h))
      have e1 : (r.named ns).next ws p = r.next (pull ns ws) p := by
        unfold Row.next
        rw [e]
        rfl
      have e2 : (r.named ns).leap ws = r.leap (pull ns ws) := by
        unfold Row.leap
        rw [e]
        rfl
      show (r.named ns).leap ws + _ = r.leap (pull ns ws) + _
      rw [e1, e2, runF_named hR]
theorem Cn.named_jumps {ns ws : List Int} {c : Cn} {f : Int} (h : Nm ns) (ok : c.ok) (hf : f = 0 ∨ f = 1) : jumpsF (c.named ns) f ws = jumpsF c f (pull ns ws) := by
  have e : (c.named ns).rows0 f = (c.rows0 f).map (Row.named ns) := by
    show (c.named ns).rows 0 ((c.named ns).yes f) (2 * (c.named ns).looks + 1 - (c.named ns).yes f) = (c.rows 0 (c.yes f) (2 * c.looks + 1 - c.yes f)).map _
    unfold Cn.yes
    rw [c.named_rows h, (c.named_all h).1]
  unfold jumpsF runOf
  rw [e, List.length_map]
  exact runF_named (fun r hr => by
    obtain ⟨k, hk, rfl⟩ := List.getElem_of_mem hr
    exact (Cn.row_ok ok hf (List.getElem?_eq_getElem hk)).1.thing) _ _
theorem Cn.named_looks {ns cs : List Int} {c : Cn} (h : Nm ns) (ok : c.ok) (hc : Cs cs) (hc' : Cs (push ns cs)) : looksN (c.named ns) (push ns cs) = looksN c cs := by
  unfold looksN
  rw [sum_filter hc', sum_filter hc]
  exact sum_push h fun ws hw => by
    unfold looksF
    rw [(c.named_is ns ws ok).2, List.length_map]
theorem Cn.named_leaps {ns cs : List Int} {c : Cn} {f : Int} (h : Nm ns) (ok : c.ok) (hf : f = 0 ∨ f = 1) (hc : Cs cs) (hc' : Cs (push ns cs)) : jumpsN (c.named ns) f (push ns cs) = jumpsN c f cs := by
  unfold jumpsN
  rw [sum_filter hc' (jumpsF (c.named ns) f), sum_filter hc (jumpsF c f)]
  exact sum_push h fun ws hw => Cn.named_jumps h ok hf
/-! ### a list that is popped in a comprehension: a store -/
@[reducible] def bxlS (b l p : Addr) : Sto := ⟨List Int, fun a => (a = b ∨ a = l) ∨ a = p, fun s H => BoxAt b l H ∧ H p = some (.lst (s.map V.int)) ∧ p ≠ b ∧ p ≠ l, fun s H H' e ⟨h1, h2, h3⟩ => ⟨(bxS b l).loc () H H' (fun a o f => e a o (.inl f)) h1, e p _ (.inr rfl) h2, h3⟩, fun s H a ⟨h1, h2, _⟩ f => by
  rcases f with f | f
  · exact (bxS b l).dom () H a h1 f
  · rw [f, h2]; exact fun z => nomatch z⟩
section
variable {b l : Addr} {ρ : DEnv} {R : PyData → (bxS b l).S → Prop} {N : DEnv → (bxS b l).S → Prop} {t : TS} {i : Nat} {ns : List Int}
theorem ws_inList (ho : ρ[i]? = some (some (.own (ns.map .int)))) (h : ∀ p, WS (bxlS b l p) t ns (ρ.set i (some (.v (.ref p)))) (fun x _ => R x ()) (fun ρ' _ => N (ρ'.set i none) ())) : WS (bxS b l) t () ρ R N := fun A0 H0 B σ H c D r n => by
  obtain ⟨p, vs, h1, h2, h3, h5, h6, h7⟩ := c.sl i _ ho
  have hi := join_some h1
  have hil : i < ρ.length := (List.getElem?_eq_some_iff.mp ho).1
  have hvs := h7.of_ints
  subst hvs
  have np : p ≠ b ∧ p ≠ l := ⟨fun z => h3 (.inl z), fun z => h3 (.inr z)⟩
  refine h p A0 H0 B σ H ⟨fun a z => ?_, c.dm, ⟨c.at_, h6, np⟩, by rw [List.length_set]; exact c.ln, fun j w q => ?_, c.fr.mono fun a z => .inl z, c.ab, c.d0, fun a z => ?_, fun j k ys zs a q1 q2 q3 q4 => ?_⟩ D (fun v H' x s' hx e a d => r v H' x () hx (fun a o q z => e a o q fun y => ?_) a.1 d) fun B' σ' H' s' ρ' hn c' => n B' σ' H' () _ hn ⟨fun a z => c'.fb a (.inl z), c'.dm, c'.at_.1, by rw [List.length_set]; exact c'.ln, fun j w q => ?_, fun a o q z => c'.fr a o q fun y => ?_, c'.ab, c'.d0, fun a z => ?_, fun j k ys zs a q1 q2 q3 q4 => ?_⟩
  · rcases z with z | z
    · exact c.fb a z
    · rw [z]; exact h2
  · rw [List.getElem?_set] at q
    by_cases e : i = j
    · subst e
      rw [if_pos rfl, if_pos hil] at q
      cases q
      exact h1
    · rw [if_neg e] at q
      have z := c.sl j w q
      cases w with
      | d x => exact z
      | v x => exact z
      | own ys =>
        obtain ⟨p', vs', z1, z2, z3, z5, z6, z7⟩ := z
        refine ⟨p', vs', z1, z2, fun y => y.elim z3 fun y => ?_, z5, z6, z7⟩
        subst y
        exact c.ow i j _ ys p' ho q e hi (join_some z1)
  · rcases c.ba a z with z | z | z
    · exact .inl z
    · exact .inr (.inl (.inl z))
    · exact .inr (.inr z)
  · rw [List.getElem?_set] at q1 q2
    by_cases e : i = j
    · subst e; rw [if_pos rfl, if_pos hil] at q1; cases q1
    · rw [if_neg e] at q1
      by_cases e' : i = k
      · subst e'; rw [if_pos rfl, if_pos hil] at q2; cases q2
      · rw [if_neg e'] at q2
        exact c.ow j k ys zs a q1 q2 q3 q4
  · rcases y with y | y
    · exact z y
    · rw [y, h5] at q; cases q
  · rw [List.getElem?_set] at q
    by_cases e : i = j
    · subst e
      rw [if_pos rfl] at q
      split at q <;> cases q
    · rw [if_neg e] at q
      have z := c'.sl j w q
      cases w with
      | d x => exact z
      | v x => exact z
      | own ys =>
        obtain ⟨p', vs', z1, z2, z3, z5, z6, z7⟩ := z
        exact ⟨p', vs', z1, z2, fun y => z3 (.inl y), z5, z6, z7⟩
  · rcases y with y | y
    · exact z y
    · rw [y, h5] at q; cases q
  · rcases c'.ba a z with z | z | z
    · exact .inl z
    · rcases z with z | z
      · exact .inr (.inl z)
      · exact .inr (.inr (by rw [z]; exact h5))
    · exact .inr (.inr z)
  · rw [List.getElem?_set] at q1 q2
    by_cases e : i = j
    · subst e; rw [if_pos rfl] at q1; split at q1 <;> cases q1
    · rw [if_neg e] at q1
      by_cases e' : i = k
      · subst e'; rw [if_pos rfl] at q2; split at q2 <;> cases q2
      · rw [if_neg e'] at q2
        exact c'.ow j k ys zs a q1 q2 q3 q4
end
section
variable {b l p : Addr} {s : List Int} {ρ : DEnv} {Φ : PyData → List Int → Prop} {ta : TA} {te : TE} {K : PySem.W.Frag} {i : Nat}
theorem wp_callBL {P : Pre} {E : XK} (hi : ρ[i]? = some (some (.v (.ref b)))) (h : WA (bxlS b l p) ta s ρ fun xs s1 => P xs fun x => Φ x s1) : WE (bxlS b l p) (tCall (spB P) [] E (tCons (tVar i) ta)) s ρ Φ := fun A0 H0 B σ H c Q k =>
  ⟨.ref b, join_some (c.sl i _ hi), h A0 H0 B σ H c _ fun vs H1 xs s1 h1 e1 a1 d1 => ⟨b, l, vs, B, xs, _, by rw [List.append_nil], c.fb b (.inl (.inl rfl)), c.fb l (.inl (.inr rfl)), a1.1, (c.step e1 a1).dm, d1, h1, fun v H' x hx e a d => k v H' x s1 hx (e1.trans (e.mono fun a z => .inl z)) ⟨a, e p _ a1.2.1 fun z => z.elim a1.2.2.1 a1.2.2.2, a1.2.2⟩ d⟩⟩
theorem wp_lenS (hi : ρ[i]? = some (some (.v (.ref p)))) (q : Φ (.int s.length) s) : WE (bxlS b l p) (tCB (rLenU K) (tCons (tVar i) tNil)) s ρ Φ := fun A0 H0 B σ H c Q k =>
  ⟨_, join_some (c.sl i _ hi), .inl ⟨p, s.map V.int, rfl, .inl (SqL.of c.at_.2.1), by rw [List.length_map]; exact k _ H _ s q Fr.refl c.at_ (.int _)⟩⟩
theorem erase_map : ∀ (s : List Int) (j : Nat), (s.map V.int).eraseIdx j = (s.eraseIdx j).map V.int
  | [], _ => rfl
  | _ :: _, 0 => rfl
  | x :: r, j + 1 => by show V.int x :: (r.map V.int).eraseIdx j = V.int x :: (r.eraseIdx j).map V.int; rw [erase_map r j]
theorem seq_j {n j : Nat} (h : j < n) : seqIndex? (j : Int) n = some j := by
  unfold seqIndex?
  show (if (decide (0 ≤ (if (j : Int) < 0 then (j : Int) + n else j)) && decide ((if (j : Int) < 0 then (j : Int) + n else j) < (n : Int))) = true then some ((if (j : Int) < 0 then (j : Int) + n else j)).toNat else none) = _
  rw [if_neg (show ¬ (j : Int) < 0 from by omega)]
  show (if (decide (0 ≤ (j : Int)) && decide ((j : Int) < (n : Int))) = true then some ((j : Int)).toNat else none) = _
  rw [if_pos (by rw [decide_eq_true (by omega), decide_eq_true (by omega)]; rfl)]
  rfl
theorem wp_popS (hi : ρ[i]? = some (some (.v (.ref p)))) (h : WE (bxlS b l p) te s ρ fun y s1 => ∃ (j : Nat) (x : Int), y = .int (j : Int) ∧ s1[j]? = some x ∧ s1.length ≤ 100000 ∧ Φ (.int x) (s1.eraseIdx j)) : WE (bxlS b l p) (tBM K "list" rPopAt (tVar i) (tCons te tNil)) s ρ Φ := fun A0 H0 B σ H c Q k => by
  have hv := join_some (c.sl i _ hi)
  have hH : H p = some (.lst (s.map V.int)) := c.at_.2.1
  refine ⟨_, hv, Or.inl ⟨rfl, _, SqL.of hH⟩, h A0 H0 B σ H c _ fun v H1 y s1 ⟨j, x, ey, hx, hl, f⟩ e a d => ?_⟩
  subst ey
  cases d
  have hj := (List.getElem?_eq_some_iff.mp hx).1
  refine ⟨p, _, _, j, .int x, rfl, rfl, a.2.1, by omega, by omega, by rw [List.length_map]; exact seq_j hj, by rw [List.getElem?_map, hx]; rfl, ?_⟩
  rw [erase_map]
  have fr : Fr (bxlS b l p).F H1 (upd H1 p (.lst ((s1.eraseIdx j).map V.int))) := fun c o q z => by rw [upd_ne fun y => z (.inr y)]; exact q
  refine k _ _ _ _ f (e.trans fr) ⟨?_, upd_same, a.2.2⟩ (.int x)
  obtain ⟨ns, z, g1, g2⟩ := a.1
  exact ⟨ns, z, by rw [upd_ne (Ne.symm a.2.2.1)]; exact g1, by rw [upd_ne (Ne.symm a.2.2.2)]; exact g2⟩
end
section
variable {T : Sto} {s : T.S} {ρ : DEnv} {R : PyData → T.S → Prop} {N : DEnv → T.S → Prop} {Φ : PyData → T.S → Prop} {te to : TE} {vs : List Nat} {g : TG} {ta : TA} {K : PySem.W.Frag}
theorem ws_ownRg {i n : Nat} (hn : n ≤ 10000) (h : i < ρ.length ∧ N (ρ.set i (some (.own ((List.range n).map fun k : Nat => .int (k : Int))))) s) : WS T (tAsg (tLstRg (tRg1 (tC (.int (n : Int))))) (gName i)) s ρ R N := fun A0 H0 B σ H c D r nn => by
  have dd : ∀ (H : Hp) (l : List Nat), DDs H (l.map fun k : Nat => V.int (k : Int)) (l.map fun k : Nat => PyData.int (k : Int)) := fun H l => by
    induction l with
    | nil => exact .nil
    | cons k r ih => exact .cons (.int _) ih
  have z := ws_own (T := T) (s := s) (ρ := ρ) (R := R) (N := N) (ta := fun _ H Q => Q ((List.range n).map fun k : Nat => V.int (k : Int)) H) (i := i) (fun A0 H0 B σ H c Q k => k _ H ((List.range n).map fun k : Nat => PyData.int (k : Int)) s ⟨by rw [List.length_map, List.length_range]; omega, h.1, h.2⟩ Fr.refl c.at_ (dd _ _)) A0 H0 B σ H c D r nn
  have e : rgV 0 (n : Int) = (List.range n).map fun k : Nat => V.int (k : Int) := by
    unfold rgV
    rw [show ((n : Int) - 0).toNat = n from by omega]
    exact List.map_congr_left fun k _ => by rw [Int.zero_add]
  refine ⟨_, rfl, RgOk.of_le (by omega) (by omega) (by omega) (by omega), ?_⟩
  rw [e]
  exact z.2
theorem wp_lcI_range (I : Nat → List PyData → T.S → Prop) (gi : GIn g vs) (h : WA T ta s ρ fun xs s1 => ∃ n : Nat, xs = [.int (n : Int)] ∧ n ≤ 10000 ∧ I 0 [] s1 ∧ (∀ (i : Nat) acc s', i < n → I i acc s' → WG T g (.int (i : Int)) s' (wipeE ρ vs) fun ρ2 s2 => WE T te s2 ρ2 fun y s4 => acc.length < 100000 ∧ I (i + 1) (acc ++ [y]) s4) ∧ ∀ acc s', I n acc s' → Φ (.list acc) s') :
    WE T (tLc (iRng1 ta) g tYes te vs) s ρ Φ := wp_lc_range gi fun A0 H0 B σ H c Q k => h A0 H0 B σ H c Q fun us H' xs s1 ⟨n, e, hn, h0, hs, q⟩ => k us H' xs s1 ⟨(n : Int), e, by omega, by omega, I, h0, fun i acc s' hi hI => by
      intro A0 H0 B σ H c v hv Q k
      refine hs i acc s' (by omega) hI A0 H0 B σ H c v hv Q fun σ' ρ' hw c' => k σ' ρ' ?_ c'
      exact wt_yes hw, fun acc s' hI => q acc s' hI⟩
theorem wp_indexI (h : WE T to s ρ fun x s1 => ∃ ns : List Int, x = .list (ns.map .int) ∧ WE T te s1 ρ fun y s2 => ∃ t, y = .int t ∧ t ∈ ns ∧ Φ (.int (firstAt t ns)) s2) : WE T (tBM K "list" (rIndex K) to (tCons te tNil)) s ρ Φ := fun A0 H0 B σ H c Q k =>
  h A0 H0 B σ H c _ fun v H1 x s1 ⟨ns, ex, h1⟩ e1 a1 d1 => by
    subst ex
    cases d1 with
    | @lst p us _ hp hu =>
      have hus := hu.of_ints
      subst hus
      have hb := cut_get hp
      refine ⟨Or.inl ⟨rfl, _, SqL.of hb.1⟩, h1 A0 H0 B σ H1 (c.step e1 a1) _ fun u H2 y s2 ⟨t, ey, ht, f⟩ e2 a2 d2 => ?_⟩
      subst ey
      cases d2
      obtain ⟨g1, g2, g3⟩ := firstAt_mem ht
      refine ⟨p, _, .int t, firstAt t ns, .int t, rfl, rfl, SqL.of (e2 p _ hb.1 fun z => hb.2 (c.fb p z)), rfl, ?_, by rw [List.getElem?_map, g2]; rfl, ?_, fun m z' hm hz => ?_, k _ H2 _ s2 f (e1.trans e2) a2 (.int _)⟩
      · rw [List.all_eq_true]
        intro x hx
        obtain ⟨i, _, rfl⟩ := List.mem_map.mp hx
        rfl
      · show (t == t) = true
        exact beq_self_eq_true t
      · rw [List.getElem?_map] at hz
        cases q : ns[m]? with
        | none => rw [q] at hz; cases hz
        | some i =>
          rw [q] at hz
          cases hz
          have := g3 m i hm q
          show (i == t) = false
          exact beq_eq_false_iff_ne.mpr this
end
end J

namespace J
open PySem L2 PySem.SeqAt PySem.W
/-! ### min of a list of data -/
def rMinD (K : PySem.W.Frag) : List V → Hp → VK → Prop := fun vs H Q => ∃ (p : Addr) (us : List V) (d : PyData) (ds : List PyData), vs = [V.ref p] ∧ SqL K H p us ∧ DpAll K H us (d :: ds) ∧ AlikeAll (d :: ds) ∧ PyData.depthAll (d :: ds) ≤ 60 ∧
  ∀ (i : Nat) u, us[i]? = some u → (d :: ds)[i]? = some (minD d ds) → Q u H
theorem vals_at : ∀ {us : List V} {its : List Value} {i : Nat} {v : Value}, Vals us its → its[i]? = some v → ∃ u, us[i]? = some u ∧ RelV u v
  | _, _, _, _, .nil, e => by simp at e
  | _, _, 0, _, .cons r _, e => by cases e; exact ⟨_, rfl, r⟩
  | _, _, i + 1, v, .cons _ t, e => vals_at (i := i) t (by simpa using e)
theorem cr_minD {X : Cx} (hc : X.calm = true) (hu : X.A.units + 65 < cLine) : CallR X (.builtin "min") (rMinD X.K) := by
  intro pins s σ H vs us Q I r h
  obtain ⟨p, ws, d, ds, rfl, hs, hd, ha, hdep, q⟩ := h
  obtain ⟨its, rv, hl, _⟩ := I.list hs
  rw [Vals.ref1 r]
  obtain ⟨as, hr⟩ := Dp.readsAll I (d :: ds) _ its hd rv
  have hr' : ReadsAll s.heap its.toArray.toList (d :: ds) as := by simpa using hr
  have hn : its.toArray.size = ds.length + 1 := readsAll_len hr'
  refine call_min_walkH (iter_listW (A := X.A.in1) (I.ok.hd hc) hl.isList fun s2 e W st hfp hw hk => ?_)
  refine ⟨_, _, _, _, _, _, _, s.heap, _, rfl, W, st, hfp, by omega, hw, hk, cmpIn_lt (A := X.A.in1) hr' ha (by show X.A.units + 1 + _ < _; omega), fun v s' hP m => ?_⟩
  obtain ⟨h', tk, rfl, hk'⟩ := moved_old e rfl m
  obtain ⟨bs, _, hi, _, _⟩ := readsAll_atA hr' _ v hP
  have e1 : its.toArray.size - 1 = ds.length := by omega
  have e2 := (argBest_fold dataLt PyData.none d ds ds.length (Nat.le_refl _)).2
  rw [List.take_length] at e2
  rw [e1] at hP hi
  have key : ∀ g : Nat, its.toArray[g]? = some v → g < (d :: ds).length → (d :: ds).getD g PyData.none = minD d ds → ∃ u, RelV u v ∧ Q u H := fun g g1 g2 g3 => by
    obtain ⟨u, hu1, hu2⟩ := vals_at (v := v) (i := g) rv (by simpa using g1)
    refine ⟨u, hu2, q g u hu1 ?_⟩
    rw [List.getD_eq_getElem?_getD, List.getElem?_eq_getElem g2] at g3
    rw [List.getElem?_eq_getElem g2]
    exact congrArg some g3
  obtain ⟨u, k1, k2⟩ := key _ hP hi e2
  exact ⟨u, H, I.kept hk', k1, k2⟩
section
variable {K : PySem.W.Frag} {Φ : PyData → Prop}
theorem rc_minD {d : PyData} {ds : List PyData} (ha : AlikeAll (d :: ds)) (hd : PyData.depthAll (d :: ds) ≤ 60) (q : Φ (minD d ds)) : RC (rMinD K) [.list (d :: ds)] Φ := fun B H vs Q dm dd k => by
  cases dd with
  | cons d1 d2 =>
    cases d2
    cases d1 with
    | lst ha' hs =>
      refine ⟨_, _, d, ds, rfl, SqL.of (cut_get ha').1, DDs.dp _ _ (DDs.mono cut_same _ _ hs), ha, hd, fun i u hu hm => ?_⟩
      obtain ⟨v, hv, hdv⟩ := DDs.get hs hm
      rw [hu] at hv
      cases hv
      exact k _ H _ q (Same.refl H) hdv
end
theorem hu65_of {A : Around} {k : Nat} (hr : Room k A) : A.units + 65 < cLine := by have := hr.un; omega
end J

namespace J
open PySem L2 PySem.SeqAt PySem.W PyProof.Rows
/-! ### sorted of a list of lists of ints -/
def lD (ns : List Int) : PyData := .list (ns.map .int)
def leL (p q : List Int) : Bool := decide (p ≤ q)
def rSortLL (K : PySem.W.Frag) : List V → Hp → VK → Prop := fun vs H Q => ∃ (p : Addr) (us : List V) (nss : List (List Int)), vs = [V.ref p] ∧ SqL K H p us ∧ DpAll K H us (nss.map lD) ∧
  ∀ q, H q = none → Q (.ref q) (upd H q (.lst (((us.zip nss).mergeSort fun a b => leL a.2 b.2).map (·.1))))
theorem each_zip {h : Heap} : ∀ {us : List V} {its : List Value} {nss : List (List Int)} {as : List Addr}, Vals us its → ReadsAll h its (nss.map lD) as → EachIs (fun v (b : V × List Int) => RelV b.1 v ∧ ∃ as, Reads h v (lD b.2) as) its (us.zip nss)
  | _, _, [], _, r, h => by
    have h' : ReadsAll _ _ [] _ := h
    cases h'
    cases r
    exact .nil
  | _, _, n :: nss, _, r, h => by
    have h' : ReadsAll _ _ (lD n :: nss.map lD) _ := h
    cases h' with
    | cons h1 h2 =>
      cases r with
      | cons r1 r2 => exact .cons ⟨r1, _, h1⟩ (each_zip r2 h2)
theorem vals_each : ∀ {out : List Value} {bs : List (V × List Int)}, EachIs (fun v (b : V × List Int) => RelV b.1 v) out bs → Vals (bs.map (·.1)) out
  | _, _, .nil => .nil
  | _, _, .cons h t => .cons h (vals_each t)
theorem dpAll_len {K : PySem.W.Frag} {H : Hp} : ∀ {us : List V} {ds : List PyData}, DpAll K H us ds → us.length = ds.length
  | _, _, .nil => rfl
  | _, _, .cons _ t => congrArg (· + 1) (dpAll_len t)
theorem zip_snd : ∀ {us : List V} {nss : List (List Int)}, us.length = nss.length → (us.zip nss).map (·.2) = nss
  | [], [], _ => rfl
  | u :: us, n :: nss, h => by
    show n :: (us.zip nss).map (·.2) = _
    rw [zip_snd (by simpa using h)]
theorem cr_sortLL {X : Cx} (hu : X.A.units + 64 < cLine) : CallR X (.builtin "sorted") (rSortLL X.K) := by
  intro pins s σ H vs us Q I r h
  obtain ⟨p, ws, nss, rfl, hs, hd, q⟩ := h
  obtain ⟨its, rv, hl, hz⟩ := I.list hs
  rw [Vals.ref1 r]
  obtain ⟨as, hr⟩ := Dp.readsAll I _ _ its hd rv
  have hn : ws.length = nss.length := by rw [dpAll_len hd, List.length_map]
  have ez := each_zip rv hr
  have hlen : (ws.zip nss).length ≤ sizeLine := by rw [List.length_zip, hn, Nat.min_self, ← hn]; exact hz
  refine sorted_data (enc := fun b : V × List Int => lD b.2) (R := fun v (b : V × List Int) => RelV b.1 v) hl.isList (ez.mono fun _ _ h => h.1) (ez.mono fun _ _ h => h.2) (AllAlike.of fun b b' => by simpa [lD, alike] using alike_ints b.2 b'.2) (Sortable.others fun b => ⟨(fun z => nomatch z), (fun xs z => nomatch z)⟩) hlen (fun b _ => ?_) fun out ho eo => ?_
  · have h1 : (lD b.2).depth ≤ 1 := by unfold lD; rw [J.depth_list, PySem.W.depth_ints]; exact Nat.le_refl _
    show X.A.units + 2 + (lD b.2).depth < cLine
    omega
  · obtain ⟨ep, he'⟩ := PyProof.Rows.sortedAll_at s.heap its out.toArray
    have e1 : dataLe false (fun b : V × List Int => lD b.2) = fun a b => leL a.2 b.2 := dataLe_rows _
    rw [e1] at eo
    have hv := vals_each eo
    refine ⟨.ref _, upd H (s.heap.objs.size + 1) (.lst (((ws.zip nss).mergeSort fun a b => leL a.2 b.2).map (·.1))), I.laid (t' := s.toks) (fun _ _ => PyProof.Rows.sortedAll_old) (Nat.le_succ _) ⟨?_, out, ep, hv, he'⟩, rfl, q _ (I.hok.fresh (Nat.le_succ _))⟩
    rw [List.length_map, List.length_mergeSort]
    exact hlen
section
variable {K : PySem.W.Frag} {Φ : PyData → Prop}
theorem dds_zip {H : Hp} : ∀ {us : List V} {nss : List (List Int)}, DDs H us (nss.map lD) → ∀ b ∈ us.zip nss, DD H b.1 (lD b.2)
  | [], _, h => by intro b hb; cases hb
  | u :: us, [], h => by intro b hb; cases hb
  | u :: us, n :: nss, h => by
    have h' : DDs H (u :: us) (lD n :: nss.map lD) := h
    cases h' with
    | cons h1 h2 =>
      intro b hb
      have hb : b ∈ (u, n) :: us.zip nss := hb
      rcases List.mem_cons.mp hb with rfl | hb
      · exact h1
      · exact dds_zip h2 b hb
theorem dds_pairs {H : Hp} : ∀ {bs : List (V × List Int)}, (∀ b ∈ bs, DD H b.1 (lD b.2)) → DDs H (bs.map (·.1)) ((bs.map (·.2)).map lD)
  | [], _ => .nil
  | b :: bs, h => .cons (h b (List.mem_cons_self ..)) (dds_pairs fun c hc => h c (List.mem_cons_of_mem _ hc))
theorem rc_sortLL {nss : List (List Int)} (q : Φ (.list ((nss.mergeSort leL).map lD))) : RC (rSortLL K) [.list (nss.map lD)] Φ := fun B H vs Q dm dd k => by
  cases dd with
  | cons d1 d2 =>
    cases d2
    cases d1 with
    | @lst a us _ ha hs =>
      refine ⟨_, _, nss, rfl, SqL.of (cut_get ha).1, DDs.dp _ _ (DDs.mono cut_same _ _ hs), fun p hp => ?_⟩
      have hl : us.length = nss.length := by rw [hs.len, List.length_map]
      have sm := (Fr.of (F := B) (same_new (o := .lst (((us.zip nss).mergeSort fun a b => leL a.2 b.2).map (·.1))) hp)).cut (B := B) fun _ z => z
      have e : ((us.zip nss).mergeSort fun a b => leL a.2 b.2).map (·.2) = nss.mergeSort leL := by
        rw [List.map_mergeSort (s := leL) (fun a _ b _ => rfl), zip_snd hl]
      have hd := dds_pairs (H := cut B H) (bs := (us.zip nss).mergeSort fun a b => leL a.2 b.2) fun b hb => dds_zip hs b ((List.mergeSort_perm _ _).mem_iff.mp hb)
      rw [e] at hd
      exact k _ _ _ q (same_new hp) (.lst (new_cut dm hp) (DDs.mono sm _ _ hd))
end
/-! ### all turns -/
/-- as the law lays them -/
def lawT : Nat → List (List Int)
  | 0 => [[]]
  | n + 1 => (lawT n).map (· ++ [0]) ++ (lawT n).map (· ++ [1])
theorem lawT_len : ∀ n, (lawT n).length = 2 ^ n
  | 0 => rfl
  | n + 1 => by show ((lawT n).map _ ++ (lawT n).map _).length = _; rw [List.length_append, List.length_map, List.length_map, lawT_len n, Nat.pow_succ]; omega
theorem lawT_item : ∀ n, ∀ w ∈ lawT n, w.length = n
  | 0, w, h => by
    have h : w ∈ [[]] := h
    rw [List.mem_singleton.mp h]; rfl
  | n + 1, w, h => by
    have h : w ∈ (lawT n).map (· ++ [0]) ++ (lawT n).map (· ++ [1]) := h
    rcases List.mem_append.mp h with h | h <;> obtain ⟨v, hv, rfl⟩ := List.mem_map.mp h <;> simp [lawT_item n v hv]
theorem leL_total : ∀ a b : List Int, (leL a b || leL b a) = true := fun a b => by
  unfold leL
  rw [Bool.or_eq_true, decide_eq_true_eq, decide_eq_true_eq]
  exact List.le_total a b
theorem leL_trans : ∀ a b c : List Int, leL a b = true → leL b c = true → leL a c = true := fun a b c h1 h2 => by
  unfold leL at *
  rw [decide_eq_true_eq] at *
  exact List.le_trans h1 h2
theorem sortT {n : Nat} (h : n ≤ 6) : (lawT n).mergeSort leL = allB n := by
  have hs := List.pairwise_mergeSort leL_trans leL_total (lawT n)
  have hp : ((lawT n).mergeSort leL).Perm (allB n) := (List.mergeSort_perm _ _).trans (by
    have : n = 0 ∨ n = 1 ∨ n = 2 ∨ n = 3 ∨ n = 4 ∨ n = 5 ∨ n = 6 := by omega
    rcases this with rfl | rfl | rfl | rfl | rfl | rfl | rfl <;> exact List.isPerm_iff.mp (by decide +kernel))
  have hb : (allB n).Pairwise fun a b => leL a b = true := by
    have : n = 0 ∨ n = 1 ∨ n = 2 ∨ n = 3 ∨ n = 4 ∨ n = 5 ∨ n = 6 := by omega
    rcases this with rfl | rfl | rfl | rfl | rfl | rfl | rfl <;> decide +kernel
  exact hp.eq_of_pairwise (le := fun a b => leL a b = true) (fun a b _ _ h1 h2 => List.le_antisymm (of_decide_eq_true h1) (of_decide_eq_true h2)) hs hb
/-! ### the least -/
/-- a told row: how many, by which turns, what else -/
def rowF (k : Int) (ts : List Int) (r : List PyData) : PyData := .tuple (.int k :: lD ts :: r)
def fstD : PyData → Int
  | .tuple (.int k :: _) => k
  | _ => 0
theorem lt_fst {a b : Int} {xs ys : List PyData} : (dataLt (.tuple (.int a :: xs)) (.tuple (.int b :: ys)) = true → a ≤ b) ∧ (dataLt (.tuple (.int a :: xs)) (.tuple (.int b :: ys)) = false → b ≤ a) := by
  rw [dataLt_tuple, dataLt_cons (by simp [alike]), dataLt_int]
  by_cases h : a = b
  · subst h
    exact ⟨fun _ => Int.le_refl _, fun _ => Int.le_refl _⟩
  · have e : ¬ PyData.eqv (.int a) (.int b) = true := by simp [PyData.eqv, h]
    rw [if_neg e]
    simp only [decide_eq_true_eq, decide_eq_false_iff_not]
    omega
theorem minD_all {ks : PyData → Prop} (hk : ∀ x, ks x → ∃ a xs, x = .tuple (.int a :: xs)) : ∀ (ds : List PyData) (d : PyData), ks d → (∀ x ∈ ds, ks x) → minD d ds ∈ d :: ds ∧ ∀ x ∈ d :: ds, fstD (minD d ds) ≤ fstD x
  | [], d, h, _ => ⟨List.mem_cons_self .., fun x hx => by rw [List.mem_singleton.mp hx]; exact Int.le_refl _⟩
  | e :: ds, d, h, hs => by
    have he := hs e (List.mem_cons_self ..)
    have step : minD d (e :: ds) = minD (if dataLt e d then e else d) ds := rfl
    rw [step]
    have hb : ks (if dataLt e d then e else d) := by split <;> assumption
    obtain ⟨m1, m2⟩ := minD_all hk ds _ hb fun x hx => hs x (List.mem_cons_of_mem _ hx)
    have h3 := m2 _ (List.mem_cons_self ..)
    obtain ⟨a, xs, rfl⟩ := hk d h
    obtain ⟨b, ys, rfl⟩ := hk e he
    have lf := lt_fst (a := b) (b := a) (xs := ys) (ys := xs)
    refine ⟨?_, fun x hx => ?_⟩
    · rcases List.mem_cons.mp m1 with m1 | m1
      · rw [m1]
        split
        · exact List.mem_cons_of_mem _ (List.mem_cons_self ..)
        · exact List.mem_cons_self ..
      · exact List.mem_cons_of_mem _ (List.mem_cons_of_mem _ m1)
    · rcases List.mem_cons.mp hx with rfl | hx
      · refine Int.le_trans h3 ?_
        split
        · exact lf.1 (by assumption)
        · exact Int.le_refl _
      · rcases List.mem_cons.mp hx with rfl | hx
        · refine Int.le_trans h3 ?_
          split
          · exact Int.le_refl _
          · exact lf.2 (Bool.eq_false_iff.mpr (by assumption))
        · exact m2 x (List.mem_cons_of_mem _ hx)

/-! rows that are compared -/
def IsRow (x : PyData) : Prop := ∃ (k : Int) (ts r : List Int), x = rowF k ts (r.map .int)
theorem alike_rows {x y : PyData} (hx : IsRow x) (hy : IsRow y) : alike x y = true := by
  obtain ⟨k, ts, r, rfl⟩ := hx
  obtain ⟨k', ts', r', rfl⟩ := hy
  unfold rowF lD
  simp [alike, alikeAll, alike_ints]
theorem depth_row {x : PyData} (h : IsRow x) : x.depth ≤ 3 := by
  obtain ⟨k, ts, r, rfl⟩ := h
  unfold rowF
  rw [J.depth_tuple]
  have : PyData.depthAll (.int k :: lD ts :: r.map .int) ≤ 2 := J.depthAll_le fun d hd => by
    rcases List.mem_cons.mp hd with rfl | hd
    · have := J.depth_int k; omega
    · rcases List.mem_cons.mp hd with rfl | hd
      · unfold lD; rw [J.depth_list, PySem.W.depth_ints]; omega
      · obtain ⟨i, _, rfl⟩ := List.mem_map.mp hd
        have := J.depth_int i; omega
  omega
def leastD : List PyData → PyData
  | [] => .none
  | d :: ds => minD d ds
structure Rows (l : List PyData) : Prop where
  some_ : l ≠ []
  row : ∀ x ∈ l, IsRow x
theorem rc_leastD {K : PySem.W.Frag} {Φ : PyData → Prop} {l : List PyData} (h : Rows l) (q : Φ (leastD l)) : RC (rMinD K) [.list l] Φ := by
  cases l with
  | nil => exact absurd rfl h.some_
  | cons d ds =>
    refine rc_minD ⟨fun x hx y hy => alike_rows (h.row x hx) (h.row y hy), fun x hx => ?_⟩ ?_ q
    · obtain ⟨_, _, _, rfl⟩ := h.row x hx
      exact fun z => nomatch z
    · have := J.depthAll_le (ds := d :: ds) (n := 3) fun x hx => depth_row (h.row x hx)
      omega
theorem Rows.least {l : List PyData} (h : Rows l) : leastD l ∈ l ∧ ∀ x ∈ l, fstD (leastD l) ≤ fstD x := by
  cases l with
  | nil => exact absurd rfl h.some_
  | cons d ds =>
    exact minD_all (ks := IsRow) (fun x ⟨k, ts, r, e⟩ => ⟨k, _, e⟩) ds d (h.row d (List.mem_cons_self ..)) fun x hx => h.row x (List.mem_cons_of_mem _ hx)
def unL : PyData → List Int
  | .list xs => xs.map fun d => match d with | .int i => i | _ => 0
  | _ => []
theorem unL_D (ts : List Int) : unL (lD ts) = ts := unI_D ts
/-! what is told of all turns -/
def rowL (c : Cn) (cs ts : List Int) : PyData := rowF (looksN (c.turn ts) cs) ts []
def rowJ1 (c : Cn) (cs ts : List Int) (f : Int) : PyData := rowF (jumpsN (c.turn ts) f cs) ts [.int f]
def rowJ (c : Cn) (cs ts : List Int) : List PyData := [rowJ1 c cs ts 0, rowJ1 c cs ts 1]
def fewL (c : Cn) (cs : List Int) : List PyData := (allB c.pairs).map (rowL c cs)
def fewJ (c : Cn) (cs : List Int) : List PyData := (allB c.pairs).flatMap (rowJ c cs)
theorem rowJ_len (c : Cn) (cs : List Int) : ∀ l : List (List Int), (l.flatMap (rowJ c cs)).length = 2 * l.length
  | [] => rfl
  | t :: l => by rw [List.flatMap_cons, List.length_append, rowJ_len c cs l]; show 2 + _ = 2 * (l.length + 1); omega
theorem fewL_map (c : Cn) (cs : List Int) : ((allB c.pairs).map lD).map (fun d => rowF (looksN (c.turn (unL d)) cs) (unL d) []) = fewL c cs := by
  unfold fewL
  rw [List.map_map]
  exact List.map_congr_left fun ts _ => by show rowF (looksN (c.turn (unL (lD ts))) cs) (unL (lD ts)) [] = _; rw [unL_D]; rfl
theorem allB_ne (n : Nat) : allB n ≠ [] := fun z => by
  have h := allB_len n
  rw [z] at h
  have := Nat.two_pow_pos n
  exact absurd h (by show (0 : Nat) ≠ _; omega)
theorem fewL_rows (c : Cn) (cs : List Int) : Rows (fewL c cs) := by
  refine ⟨fun z => allB_ne c.pairs (List.map_eq_nil_iff.mp z), fun x hx => ?_⟩
  obtain ⟨ts, _, rfl⟩ := List.mem_map.mp hx
  exact ⟨_, ts, [], rfl⟩
theorem fewJ_rows (c : Cn) (cs : List Int) : Rows (fewJ c cs) := by
  refine ⟨fun z => ?_, fun x hx => ?_⟩
  · have h := rowJ_len c cs (allB c.pairs)
    have h2 : (fewJ c cs).length = 2 * (allB c.pairs).length := h
    rw [z, allB_len] at h2
    have := Nat.two_pow_pos c.pairs
    exact absurd h2 (by show (0 : Nat) ≠ _; omega)
  · obtain ⟨ts, _, hx⟩ := List.mem_flatMap.mp hx
    simp only [rowJ, List.mem_cons, List.not_mem_nil, or_false] at hx
    rcases hx with rfl | rfl
    · exact ⟨_, ts, [0], rfl⟩
    · exact ⟨_, ts, [1], rfl⟩
/-- turns of a condition -/
def Ts (c : Cn) (ts : List Int) : Prop := ts.length = c.pairs ∧ ∀ t ∈ ts, t = 0 ∨ t = 1
theorem fewL_is (c : Cn) (cs : List Int) : ∃ ts, Ts c ts ∧ leastD (fewL c cs) = rowL c cs ts ∧ ∀ ts', Ts c ts' → looksN (c.turn ts) cs ≤ looksN (c.turn ts') cs := by
  obtain ⟨h1, h2⟩ := (fewL_rows c cs).least
  obtain ⟨ts, ht, e⟩ := List.mem_map.mp h1
  refine ⟨ts, (allB_mem _ _).mp ht, e.symm, fun ts' h' => ?_⟩
  have h3 := h2 _ (List.mem_map.mpr ⟨ts', (allB_mem _ _).mpr h', rfl⟩)
  rw [← e] at h3
  exact h3
theorem fewJ_is (c : Cn) (cs : List Int) : ∃ ts f, Ts c ts ∧ (f = 0 ∨ f = 1) ∧ leastD (fewJ c cs) = rowJ1 c cs ts f ∧ ∀ ts' f', Ts c ts' → (f' = 0 ∨ f' = 1) → jumpsN (c.turn ts) f cs ≤ jumpsN (c.turn ts') f' cs := by
  obtain ⟨h1, h2⟩ := (fewJ_rows c cs).least
  obtain ⟨ts, ht, hx⟩ := List.mem_flatMap.mp h1
  have key : ∃ f, (f = 0 ∨ f = 1) ∧ leastD (fewJ c cs) = rowJ1 c cs ts f := by
    simp only [rowJ, List.mem_cons, List.not_mem_nil, or_false] at hx
    rcases hx with hx | hx
    · exact ⟨0, .inl rfl, hx⟩
    · exact ⟨1, .inr rfl, hx⟩
  obtain ⟨f, hf, e⟩ := key
  refine ⟨ts, f, (allB_mem _ _).mp ht, hf, e, fun ts' f' h' hf' => ?_⟩
  have h3 := h2 (rowJ1 c cs ts' f') (List.mem_flatMap.mpr ⟨ts', (allB_mem _ _).mpr h', by rcases hf' with rfl | rfl <;> simp [rowJ]⟩)
  rw [e] at h3
  exact h3
end J

namespace J
open PySem L2
/-! ### two things told anew, both changed -/
section
variable {T : Sto} {A0 : Addr → Prop} {H0 : Hp} {B : Addr → Prop} {σ : L2.St} {H H1 H2 : Hp} {s : T.S} {ρ : DEnv}
theorem Cxt.newL (c : Cxt T A0 H0 B σ H1 s ρ) (e2 : Same H1 H2) {p : Addr} {ys : List V} (h : cut (NewA B H1) H2 p = some (.lst ys)) : H1 p = none ∧ H2 p = some (.lst ys) ∧ ¬ B p ∧ ¬ T.F p ∧ H0 p = none ∧
    ∀ (j : Nat) xs, ρ[j]? = some (some (.own xs)) → σ[j]? ≠ some (some (.ref p)) := by
  obtain ⟨q1, q2⟩ := cut_get h
  have g2 : ¬ B p := fun z => q2 (.inl z)
  have g4 : H1 p = none := by
    cases q3 : H1 p with
    | none => rfl
    | some o' =>
      have q4 := e2 p o' q3
      rw [q1] at q4
      cases q4
      exact absurd (.inr ⟨ys, q3⟩) q2
  have nf : ¬ T.F p := fun z => g2 (c.fb p z)
  refine ⟨g4, q1, g2, nf, ?_, fun j xs k1 k2 => ?_⟩
  · cases q : H0 p with
    | none => rfl
    | some o => rw [c.fr p o q nf] at g4; cases g4
  · obtain ⟨p', us, z1, _, _, _, z6, _⟩ := c.sl j _ k1
    have z := join_some z1
    rw [k2] at z
    cases z
    rw [g4] at z6
    cases z6
theorem own_set {i : Nat} {v : V} {p : Addr} {w : V} (hi : i < ρ.length) (no : ∀ (j : Nat) xs, ρ[j]? = some (some (.own xs)) → σ[j]? ≠ some (some (.ref p))) : ∀ (j : Nat) xs, (ρ.set i (some (.v w)))[j]? = some (some (.own xs)) → (σ.set i (some v))[j]? ≠ some (some (.ref p)) := fun j xs q1 q2 => by
  rw [List.getElem?_set] at q1 q2
  by_cases e : i = j
  · rw [if_pos e, if_pos hi] at q1; cases q1
  · rw [if_neg e] at q1 q2
    exact no j xs q1 q2
end
section
variable {T : Sto} {s : T.S} {ρ : DEnv} {R : PyData → T.S → Prop} {N : DEnv → T.S → Prop} {ta ta' : TA} {te : TE} {tt : TT} {tm tm' u : TS} {P P' : Pre} {E E' : XK} {i j : Nat}
/-- x = f(..); y = g(..); if test: return e; x, y are changed; the rest -/
theorem ws_mut2G (M : DEnv → T.S → Prop) (hu : ∀ ρ s, M ρ s → WS T u s ρ R N) (hi : i < ρ.length) (hj : j < ρ.length)
    (h : WA T ta s ρ fun xs s1 => noLs xs = true ∧ P xs fun x => ∀ w, WA T ta' s1 (ρ.set i (some (.v w))) fun ys s2 => noLs ys = true ∧ P' ys fun y => MutOk tm i x ∧ MutOk tm' j y ∧
      WT T tt s2 ((ρ.set i (some (.d x))).set j (some (.d y))) fun b s3 => if b = true then WE T te s3 (frz ((ρ.set i (some (.d x))).set j (some (.d y)))) R else ∀ w w', M ((ρ.set i (some (.v w))).set j (some (.v w'))) s3) (ij : i ≠ j) :
    WS T (tSeq (tAsg (tCall (spD P) [] E ta) (gName i)) (tSeq (tAsg (tCall (spD P') [] E' ta') (gName j)) (tSeq (tIfS tt (tRet te) tNext) (tSeq tm (tSeq tm' u))))) s ρ R N := fun A0 H0 B σ H c D r n =>
  h A0 H0 B σ H c _ fun vs H1 xs s1 ⟨nl, h1⟩ e1 a1 d1 => by
    have c1 := c.step e1 a1
    have dmN : ∀ {B : Addr → Prop} {H : Hp}, (∀ a, B a → H a ≠ none) → ∀ a, NewA B H a → H a ≠ none := fun dm a z => by
      rcases z with z | ⟨_, z⟩
      · exact dm a z
      · rw [z]; exact fun z => nomatch z
    refine ⟨NewA B H1, xs, _, dmN c1.dm, by rw [List.append_nil]; exact DDs.noL _ _ nl d1, h1, fun v H2 x hx e2 d2 => ?_⟩
    have cN1 := (c1.fresh e2).set (i := i) (w := .v v) rfl fun _ z => nomatch z
    have cD1 := (c1.grow e2).setD (i := i) (DD.mono (cut_mono fun a z => .inl z) _ _ d2)
    refine hx v A0 H0 _ _ H2 cN1 _ fun us H3 ys s2 ⟨nl2, h2⟩ e3 a3 d3 => ?_
    have cN2 := cN1.step e3 a3
    have cD2 := cD1.step e3 a3
    refine ⟨NewA (NewB B H1 H2) H3, ys, _, dmN cN2.dm, by rw [List.append_nil]; exact DDs.noL _ _ nl2 d3, h2, fun w H4 y ⟨hm, hm', ht⟩ e4 d4 => ?_⟩
    have cN3 := (cN2.fresh e4).set (i := j) (w := .v w) rfl fun _ z => nomatch z
    have cD3 := (cD2.grow e4).setD (i := j) (DD.mono (cut_mono fun a z => .inl (.inl z)) _ _ d4)
    have hv : ((σ.set i (some v)).set j (some w))[i]? = some (some v) := by rw [List.getElem?_set, if_neg fun z => ij z.symm, List.getElem?_set, if_pos rfl, if_pos (by rw [c.ln]; exact hi)]
    have hw : ((σ.set i (some v)).set j (some w))[j]? = some (some w) := by rw [List.getElem?_set, if_pos rfl, if_pos (by rw [List.length_set, c.ln]; exact hj)]
    refine ht A0 H0 B _ H4 cD3 _ fun b H5 s3 hb e5 a5 => ?_
    cases b with
    | true =>
      have hb : WE T te s3 (frz ((ρ.set i (some (.d x))).set j (some (.d y)))) R := hb
      exact hb A0 H0 _ _ H5 (cD3.step e5 a5).frz _ fun v H' x s' f e a d => r v H' x s' f ((cD3.step e5 a5).fr.trans e) a (DD.mono (cut_mono fun _ z => .inl z) _ _ d)
    | false =>
      have hb : WS T u s3 ((ρ.set i (some (.v v))).set j (some (.v w))) R N := hu _ _ ((show ∀ w w', M ((ρ.set i (some (.v w))).set j (some (.v w'))) s3 from hb) v w)
      have c5 := cN3.step e5 a5
      have G1 : ∀ a o, cut (NewA B H1) H2 a = some o → H5 a = some o := fun a o q => by
        obtain ⟨q1, q2⟩ := cut_get q
        have nf : ¬ T.F a := fun z => q2 (.inl (c.fb a z))
        exact e5 a o (e4 a o (e3 a o q1 nf)) nf
      have G2 : ∀ a o, cut (NewA (NewB B H1 H2) H3) H4 a = some o → H5 a = some o := fun a o q => by
        obtain ⟨q1, q2⟩ := cut_get q
        exact e5 a o q1 fun z => q2 (.inl (.inl (c.fb a z)))
      have hi' : i < (ρ.set i (some (.v v))).length := by rw [List.length_set]; exact hi
      have hj' : j < (ρ.set i (some (.v v))).length := by rw [List.length_set]; exact hj
      -- the second change, from any context
      have second : ∀ (Hx : Hp), Cxt T A0 H0 (NewB (NewB B H1 H2) H3 H4) ((σ.set i (some v)).set j (some w)) Hx s3 ((ρ.set i (some (.v v))).set j (some (.v w))) → (∀ a o, cut (NewA (NewB B H1 H2) H3) H4 a = some o → Hx a = some o) → tm' { D with nx := u D } ((σ.set i (some v)).set j (some w)) Hx := fun Hx cx gx => by
        refine hm' _ w _ Hx _ hw d4 gx (hb A0 H0 _ _ _ cx D r n) fun p ys zs hp => ?_
        obtain ⟨g1, g2, g3, g4, g5, g6⟩ := cN2.newL e4 hp
        exact hb A0 H0 _ _ _ (cx.mut (.inr ⟨g1, ys, g2⟩) g4 g5 (own_set hj' g6) (gx p _ hp)) D r n
      refine hm _ v _ H5 _ hv d2 G1 (second H5 c5 G2) fun p ys zs hp => ?_
      obtain ⟨g1, g2, g3, g4, g5, g6⟩ := c1.newL e2 hp
      refine second _ (c5.mut (.inl (.inr ⟨g1, ys, g2⟩)) g4 g5 (own_set hj' (own_set hi g6)) (G1 p _ hp)) fun a o q => ?_
      obtain ⟨q1, q2⟩ := cut_get q
      have ne : a ≠ p := fun z => q2 (.inr ⟨ys, by rw [z]; exact e3 p _ g2 g4⟩)
      rw [upd_ne ne]
      exact G2 a o q
theorem ws_mut2E (hi : i < ρ.length) (hj : j < ρ.length)
    (h : WA T ta s ρ fun xs s1 => noLs xs = true ∧ P xs fun x => ∀ w, WA T ta' s1 (ρ.set i (some (.v w))) fun ys s2 => noLs ys = true ∧ P' ys fun y => MutOk tm i x ∧ MutOk tm' j y ∧
      WT T tt s2 ((ρ.set i (some (.d x))).set j (some (.d y))) fun b s3 => if b = true then WE T te s3 (frz ((ρ.set i (some (.d x))).set j (some (.d y)))) R else ∀ w w', N ((ρ.set i (some (.v w))).set j (some (.v w'))) s3) (ij : i ≠ j) :
    WS T (tSeq (tAsg (tCall (spD P) [] E ta) (gName i)) (tSeq (tAsg (tCall (spD P') [] E' ta') (gName j)) (tSeq (tIfS tt (tRet te) tNext) (tSeq tm tm')))) s ρ R N :=
  show WS T (tSeq (tAsg (tCall (spD P) [] E ta) (gName i)) (tSeq (tAsg (tCall (spD P') [] E' ta') (gName j)) (tSeq (tIfS tt (tRet te) tNext) (tSeq tm (tSeq tm' tNext))))) s ρ R N from ws_mut2G N (fun _ _ z => ws_next z) hi hj h ij
end

/-! ### by any turns the same worth -/
theorem Cn.turn_val {ws : List Int} (hw : Ws ws) : ∀ (c : Cn) (ts : List Int), c.ok → (c.turn ts).val ws = c.val ws
  | .look _, _, _ => rfl
  | .nt c, ts, ok => by show 1 - (c.turn ts).val ws = 1 - c.val ws; rw [c.turn_val hw ts ok]
  | .pr b x y, ts, ok => by
    have hx := x.val_bit hw ok.1
    have hy := y.val_bit hw ok.2
    have ex : ∀ us, (x.turn us).val ws = x.val ws := fun us => x.turn_val hw us ok.1
    have ey : ∀ us, (y.turn us).val ws = y.val ws := fun us => y.turn_val hw us ok.2
    unfold Cn.turn
    split
    · show (if (y.turn _).val ws = stops b then (y.turn _).val ws else (x.turn _).val ws) = (if x.val ws = stops b then x.val ws else y.val ws)
      rw [ex, ey]
      have hs : stops b = 0 ∨ stops b = 1 := by cases b <;> simp [stops]
      split <;> split <;> omega
    · show (if (x.turn _).val ws = stops b then (x.turn _).val ws else (y.turn _).val ws) = (if x.val ws = stops b then x.val ws else y.val ws)
      rw [ex, ey]
theorem turn_same {c : Cn} (ok : c.ok) (ts : List Int) : sameWorth c (c.turn ts) = true := by
  unfold sameWorth
  rw [List.all_eq_true]
  intro n _
  rw [decide_eq_true_eq, c.turn_val (wsOf_ws _) ts ok]
theorem nice_lD (ts : List Int) (h : ts.length ≤ 1000) : nice (lD ts) = true ∧ (lD ts).depth ≤ 2 := by
  refine ⟨nice_ints ts (by omega), ?_⟩
  unfold lD
  rw [depth_list]
  have := (lay_ints ts).2
  omega
theorem nice_rowF (k : Int) (ts r : List Int) (h : ts.length ≤ 1000) (h' : r.length ≤ 1000) : nice (rowF k ts (r.map .int)) = true ∧ (rowF k ts (r.map .int)).depth ≤ 3 := by
  obtain ⟨h1, h2⟩ := nice_lD ts h
  have h3 : niceAll (r.map PyData.int) = true := niceAll_of fun d m => by obtain ⟨i, _, rfl⟩ := List.mem_map.mp m; rfl
  refine ⟨?_, depth_row ⟨k, ts, r, rfl⟩⟩
  unfold rowF
  simp only [nice, niceAll, h1, h3, Bool.and_true, Bool.true_and, decide_eq_true_eq, List.length_cons, List.length_map]
  omega

/-! ### a comprehension's list as a list of one's own -/
section
variable {T : Sto} {A0 : Addr → Prop} {H0 : Hp} {B : Addr → Prop} {σ : L2.St} {H : Hp} {s : T.S} {ρ : DEnv}
theorem Cxt.setOwn (c : Cxt T A0 H0 B σ H s ρ) {i : Nat} {p : Addr} {vs : List V} {xs : List PyData} (hi : i < ρ.length) (hb : B p) (nf : ¬ T.F p) (n0 : H0 p = none) (hp : H p = some (.lst vs)) (d : DDs (cut B H) vs xs)
    (nown : ∀ (j : Nat), σ[j]? = some (some (.ref p)) → ∀ ys, ρ[j]? ≠ some (some (.own ys))) : Cxt T A0 H0 B (σ.set i (some (.ref p))) H s (ρ.set i (some (.own xs))) := by
  have hi2 : i < σ.length := by rw [c.ln]; exact hi
  refine ⟨c.fb, c.dm, c.at_, by rw [List.length_set, List.length_set]; exact c.ln, fun j w q => ?_, c.fr, c.ab, c.d0, c.ba, fun j k ys zs q h1 h2 h3 h4 h5 => ?_⟩
  · rw [join_set hi2]
    rw [List.getElem?_set] at q
    by_cases e' : i = j
    · rw [if_pos e', if_pos hi] at q
      rw [if_pos e']
      cases q
      exact ⟨p, vs, rfl, hb, nf, n0, hp, d⟩
    · rw [if_neg e'] at q
      rw [if_neg e']
      exact c.sl j w q
  · rw [List.getElem?_set] at h1 h2 h4 h5
    by_cases e1 : i = j
    · rw [if_pos e1, if_pos hi2] at h4
      cases h4
      have e2 : ¬ i = k := fun z => h3 (e1.symm.trans z)
      rw [if_neg e2] at h2 h5
      exact nown k h5 zs h2
    · rw [if_neg e1] at h1 h4
      by_cases e2 : i = k
      · rw [if_pos e2, if_pos hi2] at h5
        cases h5
        exact nown j h4 ys h1
      · rw [if_neg e2] at h2 h5
        exact c.ow j k ys zs q h1 h2 h3 h4 h5
end
section
variable {T : Sto} {s : T.S} {ρ : DEnv} {te : TE} {vs : List Nat} {g : TG} {ta : TA} {R : PyData → T.S → Prop} {N : DEnv → T.S → Prop} {j : Nat}
theorem ws_ownLcP_range (P : PyData → Prop) (gi : GIn g vs) (hj : j < ρ.length) (h : WA T ta s ρ fun xs s1 => ∃ n : Nat, xs = [.int (n : Int)] ∧ n ≤ 10000 ∧ (∀ (i : Nat) s', i < n → WG T g (.int (i : Int)) s' (wipeE ρ vs) fun ρ2 s2 => WE T te s2 ρ2 fun y _ => P y) ∧ ∀ ys s', ys.length = n → (∀ y ∈ ys, P y) → N (ρ.set j (some (.own ys))) s') :
    WS T (tAsg (tLc (iRng1 ta) g tYes te vs) (gName j)) s ρ R N := fun A0 H0 B σ H c D r nn =>
  h A0 H0 B σ H c _ fun v H1 x s1 ⟨n, ex, hm, hs, hd⟩ e a d => by
    subst ex
    cases d with
    | cons d1 d2 =>
      cases d1
      cases d2
      have c1 := c.step e a
      refine ⟨(n : Int), rfl, by omega, by omega, fun L hL => lc_range (lo := 0) (n := ((n : Int)).toNat) (LcI T B H1 L fun i acc s' => acc.length = i ∧ ∀ y ∈ acc, P y) ⟨[], [], s1, ⟨rfl, fun _ z => nomatch z⟩, upd_same, .nil, T.loc s1 H1 _ (fun b o _ q => same_new hL b o q) c1.at_, fun b o q _ z => (by rw [upd_ne z]; exact q)⟩ (fun i H' hi q => ?_) fun H' q => ?_⟩
      · have e0 : (0 : Int) + (i : Int) = (i : Int) := Int.zero_add _
        rw [e0]
        refine lc_turn gi c1 hL q (.int _) fun acc s' ⟨e1, e2⟩ => ?_
        have hlen : acc.length < 100000 := by rw [e1]; omega
        intro A0 H0 B σ H c v hv Q k
        refine hs i s' (by omega) A0 H0 B σ H c v hv Q fun σ' ρ' hw c' => k σ' ρ' ?_ c'
        refine wt_yes ?_
        show WE T te _ ρ' _
        refine WE.mono hw fun y s4 hy => ⟨hlen, by rw [List.length_append, e1]; rfl, fun z hz => ?_⟩
        rcases List.mem_append.mp hz with hz | hz
        · exact e2 z hz
        · rw [List.mem_singleton.mp hz]; exact hy
      · obtain ⟨acc, us, s', ⟨i1, i2⟩, hL', hu, a', e'⟩ := q
        have c2 := c1.comp hL e' hL' a'
        have nb : ¬ B L := fun z => c1.dm L z hL
        have nf : ¬ T.F L := fun z => nb (c1.fb L z)
        have n0 : H0 L = none := by
          cases q : H0 L with
          | none => rfl
          | some o => rw [c1.fr L o q nf] at hL; cases hL
        refine nn _ _ _ s' _ (hd acc s' (by omega) i2) (c2.setOwn hj (.inr rfl) nf n0 hL' hu fun k hk ys q => ?_)
        obtain ⟨p', vs', h1, h2, _⟩ := c1.sl k _ q
        have z := join_some h1
        rw [hk] at z
        cases z
        exact nb h2
end
/-! the scope of a comprehension that an assignment holds -/
def lcScope : Expr → Scope
  | .ListComp _ _ sc _ => sc
  | _ => { kind := .function, names := [], isGenerator := false, isCoroutine := false }
def asgVal : Stmt → Expr
  | .Assign _ e _ => e
  | _ => .Name "" ⟨0, 0, 0, 0⟩
end J

namespace J
open PySem L2
def top (i : Nat) : Stmt := PySem.Challenge.pw_jumpsay_k08_whole_more_pairs.main.body.getD i (.Pass ⟨0, 0, 0, 0⟩)
/-! one step over data -/
local macro_rules | `(tactic| walk_at "j") => `(tactic| first
  | ((with_reducible refine wp_ixO (xs := ?jx) ?jh ?jq); (case jh => exact rfl))
  | (with_reducible refine wp_inK (by assumption) ?_)
  | (with_reducible refine wp_op ?_)
  | ((with_reducible refine wp_var (x := ?jx) ?jh ?jq); (case jh => exact rfl))
  | (with_reducible refine wp_int ?_)
  | (with_reducible refine wp_str ?_)
  | (with_reducible refine rd_ix0 ?_)
  | (with_reducible refine rd_ix1 ?_)
  | (with_reducible refine rd_ix2 ?_)
  | (with_reducible refine rd_ix3 ?_)
  | (with_reducible refine rd_eqW (by decide +kernel) (by decide +kernel) ?_)
  | (with_reducible refine rd_neW (by decide +kernel) (by decide +kernel) ?_)
  | (with_reducible refine rd_eqI ?_)
  | (with_reducible refine rd_neI ?_)
  | (with_reducible refine rd_addI ?_)
  | (with_reducible refine rd_sub ?_)
  | (with_reducible refine ⟨_, rfl, ?_⟩)
  | (with_reducible refine ifT rfl ?_)
  | (with_reducible refine ifF rfl ?_)
  | (with_reducible refine ifT (by decide +kernel) ?_)
  | (with_reducible refine ifF (by decide +kernel) ?_)
  | (with_reducible refine wa_cons ?_)
  | (with_reducible refine wa_nil ?_)
  | (with_reducible refine wt_test ?_)
  | (with_reducible refine wp_if ?_)
  | (with_reducible refine wp_isi (by first | exact .inl rfl | exact .inr (.inl rfl) | exact .inr (.inr (.inl rfl)) | exact .inr (.inr (.inr (.inl rfl))) | exact .inr (.inr (.inr (.inr rfl)))) ?_)
  | ((with_reducible refine wp_lenO (xs := ?jx) ?jh ?jq); (case jh => exact rfl))
  | (with_reducible refine wp_call ?_)
  | (with_reducible refine wp_callD ?_)
  | ((with_reducible refine wp_callB ?jh ?jq); (case jh => exact rfl))
  | (with_reducible refine wp_slice ?_)
  | (with_reducible refine wo_none ?_)
  | (with_reducible refine wo_some ?_)
  | (with_reducible refine rs_tail ?_)
  | ((with_reducible refine lcs_cons ?jh ?jq); (case jh => (simp; done)))
  | (with_reducible refine lcs_nil ?_)
  | (with_reducible refine wt_yes ?_)
  | (with_reducible refine ws_seq ?_)
  | (with_reducible refine ws_if ?_)
  | (with_reducible refine ws_ret ?_)
  | ((with_reducible refine ws_move (xs := ?jx) ?jh ?jq); (case jh => exact rfl))
  | ((with_reducible refine ws_setI (xs := ?jx) ?jh ?jq); (case jh => exact rfl))
  | (with_reducible refine ws_asg ?_)
  | (with_reducible refine wg_name ?_)
  | (with_reducible refine wg_tup2 ?_)
  | (with_reducible refine wg_tup3 ?_)
  | (with_reducible refine wg_tup4 ?_)
  | (with_reducible refine ws_next ?_)
  | (with_reducible refine ws_retN ?_)
  | ((with_reducible refine ws_appL ?jh ?jq); (case jh => exact rfl))
  | ((with_reducible refine ws_app (xs := ?jx) ?jh ?jq); (case jh => exact rfl))
  | ((with_reducible refine And.intro (a := _ < List.length _) ?jh ?jq); (case jh => exact of_decide_eq_true rfl))
  | ((with_reducible refine ws_ext (xs := ?jx) ?jh ?jq); (case jh => exact rfl))
  | (with_reducible refine ws_par ?_)
  | (with_reducible refine ws_drop ?_)
  | (with_reducible refine wt_B ?_)
  | (with_reducible refine wt_and ?_)
  | (with_reducible refine wt_or ?_)
  | (with_reducible refine wt_not ?_)
  | (with_reducible refine wp_andV ?_)
  | (with_reducible refine wp_orV ?_)
  | (with_reducible refine wp_notV ?_)
  | (with_reducible refine wp_bl ?_)
  | (with_reducible refine wp_non ?_)
  | (with_reducible refine wp_tup ?_)
  | ((with_reducible refine And.intro (a := _ ≤ 100000) ?jh ?jq); (case jh => (simp; done)))
  | (with_reducible refine wp_lst ?_)
  | (with_reducible refine wp_un ?_)
  | (with_reducible refine r1_neg ?_)
  | (with_reducible refine rc_lenT ?_)
  | (with_reducible refine rc_lenL ?_)
  | (with_reducible refine rc_intI ?_)
  | (with_reducible refine rc_intB ?_)
  | (with_reducible refine rd_lt ?_)
  | (with_reducible refine rd_le ?_)
  | (with_reducible refine rd_gt ?_)
  | (with_reducible refine rd_ge ?_)
  | (with_reducible refine wp_chain ?_)
  | (with_reducible refine rc_tupL ?_)
  | (with_reducible refine rd_div ⟨by decide, by decide⟩ ?_)
  | (with_reducible refine rd_mod (by decide) ?_)
  | (with_reducible refine rd_eqB ?_))
local macro_rules | `(tactic| walk_at "js") => `(tactic| with_reducible refine wp_lcS_tup (gin_name (by decide)) ?_)
local macro_rules | `(tactic| walk_at "jm") => `(tactic| with_reducible refine wp_lcM_tup (gin_name (by decide)) ?_)
local macro_rules | `(tactic| walk_at "jo") => `(tactic| first | (with_reducible refine ws_own ?_) | walk_at "j")

/-! ### is_condition -/
abbrev s_is_condition : Stmt := top 13
abbrev n_is_condition : List Str := ["part", "deep", "one"]
abbrev q_is_condition : List Str := ["part", "deep"]
theorem sc_is_condition : FnScope n_is_condition q_is_condition (defScope s_is_condition) := ⟨rfl, rfl, rfl, by decide +kernel, rfl, by decide +kernel, by decide +kernel⟩

/-! what is a condition -/
abbrev wXor : Str := "xor"
abbrev wNOT : Str := "Not"
abbrev wNil : Str := ""
def sizeW (s : Str) : Option Int := if s = wLook then some 2 else if s = wNot then some 2 else if s = wAnd then some 3 else if s = wOr then some 3 else none
def W7 (s : Str) : Prop := s = wLook ∨ s = wNot ∨ s = wAnd ∨ s = wOr ∨ s = wXor ∨ s = wNOT ∨ s = wNil
mutual
def isC : PyData → Int → Bool
  | .tuple ds, k => isCt ds k
  | _, _ => false
def isCt : List PyData → Int → Bool
  | .str w :: t, k => decide (k ≤ 10) && decide ((sizeW w).getD 0 = (t.length : Int) + 1) && (if w == wLook then (match t with | [.int i] => decide (0 ≤ i) && decide (i < 8) | _ => false) else isCs t (k + 1))
  | _, _ => false
def isCs : List PyData → Int → Bool
  | [], _ => true
  | d :: ds, k => isC d k && isCs ds k
end
theorem isCs_all (k : Int) : ∀ ds : List PyData, isCs ds k = (ds.map fun d => isC d k).all id
  | [] => rfl
  | d :: ds => by rw [isCs, isCs_all k ds]; rfl
mutual
def okD : PyData → Prop
  | .tuple ds => (∀ w t, ds = .str w :: t → W7 w) ∧ okDs ds
  | _ => True
def okDs : List PyData → Prop
  | [] => True
  | d :: ds => okD d ∧ okDs ds
end
theorem okDs_mem : ∀ {ds : List PyData} {d : PyData}, okDs ds → d ∈ ds → okD d
  | _ :: _, _, h, .head _ => h.1
  | _ :: _, _, h, .tail _ m => okDs_mem h.2 m
theorem shaped_mem : ∀ {ds : List PyData} {d : PyData}, PyData.canLayAll0 ds = true → PyData.depthAll ds ≤ 63 → d ∈ ds → SeqAt.shaped d = true
  | e :: r, d, h1, h2, m => by
    have h1' : e.canLay0 = true ∧ PyData.canLayAll0 r = true := by simpa [PyData.canLayAll0] using h1
    have h2' : max e.depth (PyData.depthAll r) ≤ 63 := by simpa [PyData.depthAll] using h2
    cases m with
    | head _ => exact shaped_of h1'.1 (by omega)
    | tail _ m => exact shaped_mem h1'.2 (by omega) m
theorem shaped_item {ds : List PyData} {d : PyData} (h : SeqAt.shaped (.tuple ds) = true) (m : d ∈ ds) : SeqAt.shaped d = true := by
  have h1 := SeqAt.canLay_of_shaped h
  have h2 := SeqAt.depth_of_shaped h
  simp only [PyData.canLay0] at h1
  simp only [PyData.depth] at h2
  exact shaped_mem (by simpa using h1) (by omega) m
def P_is_condition (n : Nat) : Pre := fun ds Ψ => ∃ (d : PyData) (k : Int), ds = [d, .int k] ∧ 0 ≤ k ∧ k ≤ 11 ∧ 12 ≤ k + n ∧ okD d ∧ SeqAt.shaped d = true ∧ Ψ (.bool (isC d k))
theorem len_is_condition {n : Nat} : ∀ ds Ψ, P_is_condition n ds Ψ → ds.length = 2 := fun ds Ψ ⟨_, _, e, _⟩ => by rw [e]; rfl
theorem zero_is_condition : ∀ vs H Q E, ¬ spD (P_is_condition 0) vs H Q E := zeroD fun ds Ψ ⟨_, k, _, _, h1, h2, _⟩ => by
  have h2 : 12 ≤ k + ((0 : Nat) : Int) := h2
  omega
/-! of conditions -/
theorem size_look : sizeW wLook = some 2 := by decide +kernel
theorem size_not : sizeW wNot = some 2 := by decide +kernel
theorem size_and : sizeW wAnd = some 3 := by decide +kernel
theorem size_or : sizeW wOr = some 3 := by decide +kernel
theorem isC_D : ∀ (c : Cn) (k : Int), isC c.D k = true ↔ c.ok ∧ k + c.deep ≤ 10
  | .look i, k => by
    simp only [Cn.D, isC, isCt, size_look, beq_self_eq_true, if_true, Cn.ok, Cn.deep, Option.getD_some, List.length_singleton, Bool.and_eq_true, decide_eq_true_eq]
    omega
  | .nt c, k => by
    have ih := isC_D c (k + 1)
    simp only [Cn.D, isC, isCt, isCs, size_not, ne_nl, Cn.ok, Cn.deep, Option.getD_some, List.length_singleton, Bool.and_eq_true, decide_eq_true_eq, Bool.false_eq_true, if_false, ih, Bool.and_true]
    constructor
    · rintro ⟨⟨a, b⟩, c, d⟩
      exact ⟨c, by omega⟩
    · rintro ⟨c, d⟩
      exact ⟨⟨by omega, by omega⟩, c, by omega⟩
  | .pr true x y, k => by
    have ih := isC_D x (k + 1)
    have ih2 := isC_D y (k + 1)
    simp only [Cn.D, isC, isCt, isCs, size_and, ne_al, Cn.ok, Cn.deep, Option.getD_some, List.length_cons, List.length_nil, Bool.and_eq_true, decide_eq_true_eq, Bool.false_eq_true, if_false, ih, ih2, Bool.and_true]
    constructor
    · rintro ⟨⟨a, b⟩, ⟨c, d⟩, e, f⟩
      exact ⟨⟨c, e⟩, by omega⟩
    · rintro ⟨⟨c, e⟩, d⟩
      exact ⟨⟨by omega, by omega⟩, ⟨c, by omega⟩, e, by omega⟩
  | .pr false x y, k => by
    have ih := isC_D x (k + 1)
    have ih2 := isC_D y (k + 1)
    simp only [Cn.D, isC, isCt, isCs, size_or, ne_ol, Cn.ok, Cn.deep, Option.getD_some, List.length_cons, List.length_nil, Bool.and_eq_true, decide_eq_true_eq, Bool.false_eq_true, if_false, ih, ih2, Bool.and_true]
    constructor
    · rintro ⟨⟨a, b⟩, ⟨c, d⟩, e, f⟩
      exact ⟨⟨c, e⟩, by omega⟩
    · rintro ⟨⟨c, e⟩, d⟩
      exact ⟨⟨by omega, by omega⟩, ⟨c, by omega⟩, e, by omega⟩
theorem okD_D : ∀ c : Cn, okD c.D
  | .look i => by
    refine ⟨fun w t e => ?_, trivial, trivial, trivial⟩
    cases e
    exact .inl rfl
  | .nt c => by
    refine ⟨fun w t e => ?_, trivial, okD_D c, trivial⟩
    cases e
    exact .inr (.inl rfl)
  | .pr true x y => by
    refine ⟨fun w t e => ?_, trivial, okD_D x, okD_D y, trivial⟩
    cases e
    exact .inr (.inr (.inl rfl))
  | .pr false x y => by
    refine ⟨fun w t e => ?_, trivial, okD_D x, okD_D y, trivial⟩
    cases e
    exact .inr (.inr (.inr (.inl rfl)))

def t_is_condition (K : PySem.W.Frag) (w : World) (a_SIZES : Addr) (n : Nat) : TS :=
  (tSeq (tIfS (tOr (tNot (tB (tCB (rIsi K) (tCons (tVar 0) (tCons (tC (.ty "tuple")) tNil))))) (tOr (tTest (tOp (rEqD K) (tVar 0) (tTup tNil))) (tTest (tOp rGtI (tVar 1) (tC (.int 10)))))) (tRet (tC (.bl false))) tNext)
  (tSeq (tIfS (tOr (tNot (tB (tCB (rIsi K) (tCons (tOp (rIx K) (tVar 0) (tC (.int 0))) (tCons (tC (.ty "str")) tNil))))) (tTest (tOp (rNeD K) (tKGet2 K w (tC (.ref a_SIZES)) (tOp (rIx K) (tVar 0) (tC (.int 0))) (tC (.int 0))) (tCB (rLenU K) (tCons (tVar 0) tNil))))) (tRet (tC (.bl false))) tNext)
  (tSeq (tIfS (tTest (tOp (rEqD K) (tOp (rIx K) (tVar 0) (tC (.int 0))) (tC (.str "look")))) (tRet (tAndV (tCB (rIsi K) (tCons (tOp (rIx K) (tVar 0) (tC (.int 1))) (tCons (tC (.ty "int")) tNil))) (tAndV (tNotV (tCB (rIsi K) (tCons (tOp (rIx K) (tVar 0) (tC (.int 1))) (tCons (tC (.ty "bool")) tNil)))) (tChain rLeI rLtI (tC (.int 0)) (tOp (rIx K) (tVar 0) (tC (.int 1))) (tC (.int 8)))))) tNext)
  (tRet (tCB (rAll K) (tCons (tLc (iSeq K (tSl (rSlU K) (tVar 0) (tPart (tC (.int 1))) tNoPart)) (gName 2) tYes (tCall (spD (P_is_condition n)) [] E0 (tCons (tVar 2) (tCons (tOp (rAddU K) (tVar 1) (tC (.int 1))) tNil))) [2]) tNil))))))

theorem shaped_nil : SeqAt.shaped (.tuple []) = true := by decide +kernel
theorem W7_ok {s : Str} (h : W7 s) : PyData.strOk s = true := by
  rcases h with rfl | rfl | rfl | rfl | rfl | rfl | rfl <;> decide +kernel
theorem w_is_condition (n : Nat) {K : PySem.W.Frag} {w : World} {a_SIZES : Addr} (kt : KTab K w a_SIZES sizeW W7) : ∀ ds Ψ, P_is_condition (n + 1) ds Ψ → WS uS (t_is_condition K w a_SIZES n) () (init n_is_condition ds) (fun x _ => Ψ x) (fun _ _ => Ψ .none) := by
  rintro ds Ψ ⟨d, k, rfl, h0, h1, h2, ok, sh, q⟩
  unfold t_is_condition
  cases d with
  | tuple ds =>
    repeat walk_at "j"
    refine rd_eq sh shaped_nil ?_
    cases ds with
    | nil =>
      repeat walk_at "j"
      exact q
    | cons h t =>
      repeat walk_at "j"
      refine ifD (fun hk => ?_) (fun hk => ?_)
      · repeat walk_at "j"
        have e : isC (.tuple (h :: t)) k = false := by
          cases h <;> simp [isC, isCt] <;> omega
        rw [e] at q
        exact q
      · repeat walk_at "j"
        cases h with
        | str s =>
          have hw : W7 s := ok.1 s t rfl
          have hs : PyData.strOk s = true := W7_ok hw
          repeat walk_at "j"
          refine wp_kget2 kt ?_
          repeat walk_at "j"
          refine ⟨_, _, rfl, hw, rfl, ?_⟩
          repeat walk_at "j"
          refine ifND (fun hl => ?_) (fun hl => ?_)
          · repeat walk_at "j"
            have e : isC (.tuple (.str s :: t)) k = false := by
              have e1 : decide ((sizeW s).getD 0 = (t.length : Int) + 1) = false := decide_eq_false hl
              simp only [isC, isCt, e1, Bool.and_false, Bool.false_and]
            rw [e] at q
            exact q
          · have e1 : decide ((sizeW s).getD 0 = (t.length : Int) + 1) = true := decide_eq_true hl
            have e2 : decide (k ≤ 10) = true := decide_eq_true (by omega)
            repeat walk_at "j"
            refine rd_eqW hs (by decide +kernel) ?_
            repeat walk_at "j"
            cases e : s == wLook with
            | true =>
              have hsw : s = wLook := by simpa using e
              subst hsw
              rw [size_look] at e1
              simp only [isC, isCt, size_look, beq_self_eq_true, if_true, e1, e2, Bool.true_and] at q
              have hlen : t.length = 1 := by
                have := of_decide_eq_true e1
                have : (2 : Int) = t.length + 1 := this
                omega
              match t, hlen with
              | [x], _ =>
                cases x with
                | int i =>
                  repeat walk_at "j"
                  refine ifD (fun h1 => ?_) (fun h1 => ?_)
                  · repeat walk_at "j"
                    simpa [h1] using q
                  · repeat walk_at "j"
                    simpa [h1] using q
                | _ =>
                  repeat walk_at "j"
                  exact q
            | false =>
              repeat walk_at "j"
              walk_at "jm"
              repeat walk_at "j"
              have hsm : t.length < 100000 := by
                have h5 := of_decide_eq_true e1
                have h6 : (sizeW s).getD 0 ≤ 3 := by
                  rcases hw with rfl | rfl | rfl | rfl | rfl | rfl | rfl <;> decide +kernel
                omega
              refine ⟨hsm, fun d => .bool (isC d (k + 1)), fun d hd => ?_, ?_⟩
              · repeat walk_at "j"
                refine ⟨rfl, ?_⟩
                repeat walk_at "j"
                exact ⟨d, k + 1, rfl, by omega, by omega, by omega, okDs_mem ok.2 (List.mem_cons_of_mem _ hd), shaped_item sh (List.mem_cons_of_mem _ hd), rfl, rfl⟩
              · repeat walk_at "j"
                refine rc_all (bs := t.map fun d => isC d (k + 1)) (by rw [List.map_map]; rfl) ?_
                simp only [isC, isCt, e, e1, e2, Bool.and_self, Bool.true_and, Bool.false_eq_true, if_false, isCs_all] at q
                exact q
        | _ =>
          repeat walk_at "j"
          exact q
  | _ =>
    repeat walk_at "j"
    exact q

theorem ok_is_condition {P : Program} {w : World} {K : PySem.W.Frag} {mg : Str → Option Value} {base : Heap} {f : Addr} {fd : FuncData} {a_SIZES : Addr} (n : Nat) (F : Fun K "is_condition" "is_condition" s_is_condition f fd) (hb : Blt mg) (hc_MOST_WITHIN : ∃ t, mg "MOST_WITHIN" = some (.int 10 t)) (hc_SIZES : mg "SIZES" = some (.ref a_SIZES)) (hc_THINGS : ∃ t, mg "THINGS" = some (.int 8 t)) (c_is_condition : Cal P w K mg base (n + 0) "is_condition" q_is_condition (spD (P_is_condition n))) (kt : KTab K w a_SIZES sizeW W7) : FnOk P w K mg base CX0 (n + 0 + 1) f fd q_is_condition (spD (P_is_condition (n + 1))) := by
  refine fnD F sc_is_condition len_is_condition (t := t_is_condition K w a_SIZES n) (fun cdv A outer s H E hr => ?_) (w_is_condition n kt)
  have hu64 := hr.units
  have hu := hu_of hr
  exact (pss_cons (ps_if (PW.pt (pw_or (pt_not (pt_val (pe_callB call_isi (by rfl) hb.isinstance (by decide +kernel) (pa_cons (pv 0) (pa_cons (pe_bltn (by rfl) hb.tuple (by decide +kernel) rfl) pa_nil))))) (pw_or (pt_cmpR (op_eqD hu64) (pv 0) (pe_tup pa_nil) (nomark _)) (pw_or1 (pt_cmpR op_gtU (pv 1) (pe_globI rfl hc_MOST_WITHIN) (nomark _)))))) (pss_one (ps_ret pe_bl)) pss_nil)
    (pss_cons (ps_if (PW.pt (pw_or (pt_not (pt_val (pe_callB call_isi (by rfl) hb.isinstance (by decide +kernel) (pa_cons (pe_ix ix_seq (pv 0) pe_int (fun _ _ => rfl)) (pa_cons (pe_bltn (by rfl) hb.str (by decide +kernel) rfl) pa_nil))))) (pw_or1 (pt_cmpR (op_neD hu64) (pe_kget2 (pe_glob rfl hc_SIZES rfl) (pe_ix ix_seq (pv 0) pe_int (fun _ _ => rfl)) pe_int ⟨rfl, rfl, rfl, rfl⟩) (pe_callB call_lenU (by rfl) hb.len (by decide +kernel) (pa_cons (pv 0) pa_nil)) (nomark _))))) (pss_one (ps_ret pe_bl)) pss_nil)
    (pss_cons (ps_if (pt_cmpR (op_eqD hu64) (pe_ix ix_seq (pv 0) pe_int (fun _ _ => rfl)) pe_str (nomark _)) (pss_one (ps_ret (pe_and (pe_callB call_isi (by rfl) hb.isinstance (by decide +kernel) (pa_cons (pe_ix ix_seq (pv 0) pe_int (fun _ _ => rfl)) (pa_cons (pe_bltn (by rfl) hb.int (by decide +kernel) rfl) pa_nil))) (pe_and (pe_not (pe_callB call_isi (by rfl) hb.isinstance (by decide +kernel) (pa_cons (pe_ix ix_seq (pv 0) pe_int (fun _ _ => rfl)) (pa_cons (pe_bltn (by rfl) hb.bool (by decide +kernel) rfl) pa_nil)))) (pe_one (pe_chain op_leU op_ltU pe_int (pe_ix ix_seq (pv 0) pe_int (fun _ _ => rfl)) (pe_globI rfl hc_THINGS))))))) pss_nil)
    (pss_one (ps_ret (pe_callB (cr_all rfl) (by rfl) hb.all (by decide +kernel) (pa_cons (pe_lc (own := [("one", 2)]) (by rfl) sc_is_condition.nd (pi_seq (pe_slice sl_U (pv 0) (po_some pe_int) po_none)) (blkOk_by (own := [("one", 2)]) (N := n_is_condition) (sc := defScope s_is_condition) (by decide +kernel)) (fun _ _ _ _ _ => (pg_name (i := 2) sc_is_condition.nd rfl (Or.inl rfl))) (fun _ _ _ _ _ => pts_nil) (fun _ _ _ _ _ => (pe_callC c_is_condition (hr.mono (by omega)) rfl (pa_cons (pv 2) (pa_cons (pe_op op_addU (pv 1) pe_int) pa_nil))))) pa_nil)))))))

theorem all_is_condition {P : Program} {w : World} {K : PySem.W.Frag} {mg : Str → Option Value} {base : Heap} {a_SIZES : Addr} {f_is_condition : Addr} {d_is_condition : FuncData} (F_is_condition : Fun K "is_condition" "is_condition" s_is_condition f_is_condition d_is_condition) (m_is_condition : mg "is_condition" = some (.ref f_is_condition)) (B_is_condition : Binds K d_is_condition q_is_condition []) (hb : Blt mg) (hc_MOST_WITHIN : ∃ t, mg "MOST_WITHIN" = some (.int 10 t)) (hc_SIZES : mg "SIZES" = some (.ref a_SIZES)) (hc_THINGS : ∃ t, mg "THINGS" = some (.int 8 t)) (kt : KTab K w a_SIZES sizeW W7) : ∀ n : Nat, Cal P w K mg base (n + 0) "is_condition" q_is_condition (spD (P_is_condition n))
  | 0 => cal_zero F_is_condition.kp m_is_condition B_is_condition zero_is_condition
  | n + 1 => by
    have c_is_condition := all_is_condition (P := P) (w := w) (base := base) F_is_condition m_is_condition B_is_condition hb hc_MOST_WITHIN hc_SIZES hc_THINGS kt n
    have e : n + 1 + 0 = n + 0 + 1 := by omega
    rw [e]
    exact ⟨_, _, m_is_condition, F_is_condition.kp, B_is_condition, ok_is_condition n F_is_condition hb hc_MOST_WITHIN hc_SIZES hc_THINGS c_is_condition kt⟩

/-! ### looks_in -/
abbrev s_looks_in : Stmt := top 14
abbrev n_looks_in : List Str := ["part", "one"]
abbrev q_looks_in : List Str := ["part"]
theorem sc_looks_in : FnScope n_looks_in q_looks_in (defScope s_looks_in) := ⟨rfl, rfl, rfl, by decide +kernel, rfl, by decide +kernel, by decide +kernel⟩

def P_looks_in (n : Nat) : Pre := fun ds Ψ => ∃ c : Cn, ds = [c.D] ∧ c.deep < n ∧ Ψ (.int c.looks)
theorem len_looks_in {n : Nat} : ∀ ds Ψ, P_looks_in n ds Ψ → ds.length = 1 := fun ds Ψ ⟨_, e, _⟩ => by rw [e]; rfl
theorem zero_looks_in : ∀ vs H Q E, ¬ spD (P_looks_in 0) vs H Q E := zeroD fun ds Ψ ⟨_, _, h, _⟩ => absurd h (Nat.not_lt_zero _)

def t_looks_in (K : PySem.W.Frag) (n : Nat) : TS :=
  (tRet (tIf (tTest (tOp (rEqD K) (tOp (rIx K) (tVar 0) (tC (.int 0))) (tC (.str "look")))) (tC (.int 1)) (tCB (rSum K) (tCons (tLc (iSeq K (tSl (rSlU K) (tVar 0) (tPart (tC (.int 1))) tNoPart)) (gName 1) tYes (tCall (spD (P_looks_in n)) [] E0 (tCons (tVar 1) tNil)) [1]) tNil))))

theorem w_looks_in (n : Nat) {K : PySem.W.Frag} : ∀ ds Ψ, P_looks_in (n + 1) ds Ψ → WS uS (t_looks_in K n) () (init n_looks_in ds) (fun x _ => Ψ x) (fun _ _ => Ψ .none) := by
  rintro ds Ψ ⟨c, rfl, hd, q⟩
  unfold t_looks_in
  cases c with
  | look i =>
    unfold Cn.D
    repeat walk_at "j"
    exact q
  | nt c =>
    have hd : c.deep + 1 < n + 1 := hd
    unfold Cn.D
    repeat walk_at "j"
    walk_at "js"
    repeat walk_at "j"
    refine ⟨c, rfl, by omega, ?_⟩
    repeat walk_at "j"
    refine rc_sum (ns := [(c.looks : Int)]) rfl ?_
    simpa [Cn.looks] using q
  | pr b x y =>
    have hd : max x.deep y.deep + 1 < n + 1 := hd
    cases b <;> unfold Cn.D
    all_goals
      repeat walk_at "j"
      walk_at "js"
      repeat walk_at "j"
      refine ⟨x, rfl, by omega, ?_⟩
      repeat walk_at "j"
      refine ⟨y, rfl, by omega, ?_⟩
      repeat walk_at "j"
      refine rc_sum (ns := [(x.looks : Int), (y.looks : Int)]) rfl ?_
      simpa [Cn.looks] using q

theorem ok_looks_in {P : Program} {w : World} {K : PySem.W.Frag} {mg : Str → Option Value} {base : Heap} {f : Addr} {fd : FuncData}  (n : Nat) (F : Fun K "looks_in" "looks_in" s_looks_in f fd) (hb : Blt mg) (c_looks_in : Cal P w K mg base (n + 0) "looks_in" q_looks_in (spD (P_looks_in n)))  : FnOk P w K mg base CX0 (n + 0 + 1) f fd q_looks_in (spD (P_looks_in (n + 1))) := by
  refine fnD F sc_looks_in len_looks_in (t := t_looks_in K n) (fun cdv A outer s H E hr => ?_) (w_looks_in n )
  have hu64 := hr.units
  have hu := hu_of hr
  exact (pss_one (ps_ret (pe_ifExp (pt_cmpR (op_eqD hu64) (pe_ix ix_seq (pv 0) pe_int (fun _ _ => rfl)) pe_str (nomark _)) pe_int (pe_callB (cr_sum rfl) (by rfl) hb.sum (by decide +kernel) (pa_cons (pe_lc (own := [("one", 1)]) (by rfl) sc_looks_in.nd (pi_seq (pe_slice sl_U (pv 0) (po_some pe_int) po_none)) (blkOk_by (own := [("one", 1)]) (N := n_looks_in) (sc := defScope s_looks_in) (by decide +kernel)) (fun _ _ _ _ _ => (pg_name (i := 1) sc_looks_in.nd rfl (Or.inl rfl))) (fun _ _ _ _ _ => pts_nil) (fun _ _ _ _ _ => (pe_callC c_looks_in (hr.mono (by omega)) rfl (pa_cons (pv 1) pa_nil)))) pa_nil)))))

theorem all_looks_in {P : Program} {w : World} {K : PySem.W.Frag} {mg : Str → Option Value} {base : Heap}  {f_looks_in : Addr} {d_looks_in : FuncData} (F_looks_in : Fun K "looks_in" "looks_in" s_looks_in f_looks_in d_looks_in) (m_looks_in : mg "looks_in" = some (.ref f_looks_in)) (B_looks_in : Binds K d_looks_in q_looks_in []) (hb : Blt mg)  : ∀ n : Nat, Cal P w K mg base (n + 0) "looks_in" q_looks_in (spD (P_looks_in n))
  | 0 => cal_zero F_looks_in.kp m_looks_in B_looks_in zero_looks_in
  | n + 1 => by
    have c_looks_in := all_looks_in (P := P) (w := w) (base := base) F_looks_in m_looks_in B_looks_in hb  n
    have e : n + 1 + 0 = n + 0 + 1 := by omega
    rw [e]
    exact ⟨_, _, m_looks_in, F_looks_in.kp, B_looks_in, ok_looks_in n F_looks_in hb c_looks_in⟩

/-! ### pairs_in -/
abbrev s_pairs_in : Stmt := top 15
abbrev n_pairs_in : List Str := ["part", "one"]
abbrev q_pairs_in : List Str := ["part"]
theorem sc_pairs_in : FnScope n_pairs_in q_pairs_in (defScope s_pairs_in) := ⟨rfl, rfl, rfl, by decide +kernel, rfl, by decide +kernel, by decide +kernel⟩

def P_pairs_in (n : Nat) : Pre := fun ds Ψ => ∃ c : Cn, ds = [c.D] ∧ c.deep < n ∧ Ψ (.int c.pairs)
theorem len_pairs_in {n : Nat} : ∀ ds Ψ, P_pairs_in n ds Ψ → ds.length = 1 := fun ds Ψ ⟨_, e, _⟩ => by rw [e]; rfl
theorem zero_pairs_in : ∀ vs H Q E, ¬ spD (P_pairs_in 0) vs H Q E := zeroD fun ds Ψ ⟨_, _, h, _⟩ => absurd h (Nat.not_lt_zero _)
theorem in_pairs (b : Bool) : (wAnd == wOf b || wOr == wOf b) = true := by cases b <;> decide +kernel
theorem in_pairs_n : (wAnd == wNot || wOr == wNot) = false := by decide +kernel

def t_pairs_in (K : PySem.W.Frag) (a_PAIRS : Addr) (n : Nat) : TS :=
  (tSeq (tIfS (tTest (tOp (rEqD K) (tOp (rIx K) (tVar 0) (tC (.int 0))) (tC (.str "look")))) (tRet (tC (.int 0))) tNext)
  (tRet (tOp (rAddU K) (tCB rInt (tCons (tOp (rInU K) (tOp (rIx K) (tVar 0) (tC (.int 0))) (tC (.ref a_PAIRS))) tNil)) (tCB (rSum K) (tCons (tLc (iSeq K (tSl (rSlU K) (tVar 0) (tPart (tC (.int 1))) tNoPart)) (gName 1) tYes (tCall (spD (P_pairs_in n)) [] E0 (tCons (tVar 1) tNil)) [1]) tNil)))))

theorem w_pairs_in (n : Nat) {K : PySem.W.Frag} {a_PAIRS : Addr} (kp : KTup K a_PAIRS [.str wAnd, .str wOr]) : ∀ ds Ψ, P_pairs_in (n + 1) ds Ψ → WS uS (t_pairs_in K a_PAIRS n) () (init n_pairs_in ds) (fun x _ => Ψ x) (fun _ _ => Ψ .none) := by
  rintro ds Ψ ⟨c, rfl, hd, q⟩
  unfold t_pairs_in
  cases c with
  | look i =>
    unfold Cn.D
    repeat walk_at "j"
    exact q
  | nt c =>
    have hd : c.deep + 1 < n + 1 := hd
    unfold Cn.D
    repeat walk_at "j"
    rw [in_pairs_n]
    repeat walk_at "j"
    walk_at "js"
    repeat walk_at "j"
    refine ⟨c, rfl, by omega, ?_⟩
    repeat walk_at "j"
    refine rc_sum (ns := [(c.pairs : Int)]) rfl ?_
    repeat walk_at "j"
    simpa [Cn.pairs] using q
  | pr b x y =>
    have hd : max x.deep y.deep + 1 < n + 1 := hd
    have nl := wOf_nl b
    have so := wOf_so b
    rw [D_pr]
    repeat walk_at "j"
    refine rd_eqW so (by decide +kernel) ?_
    rw [show (wOf b == Str.ofString "look") = false from nl]
    repeat walk_at "j"
    rw [in_pairs]
    repeat walk_at "j"
    walk_at "js"
    repeat walk_at "j"
    refine ⟨x, rfl, by omega, ?_⟩
    repeat walk_at "j"
    refine ⟨y, rfl, by omega, ?_⟩
    repeat walk_at "j"
    refine rc_sum (ns := [(x.pairs : Int), (y.pairs : Int)]) rfl ?_
    repeat walk_at "j"
    refine Eq.mp (congrArg (fun z => Ψ (.int z)) ?_) q
    simp [Cn.pairs]
    omega

theorem ok_pairs_in {P : Program} {w : World} {K : PySem.W.Frag} {mg : Str → Option Value} {base : Heap} {f : Addr} {fd : FuncData} {a_PAIRS : Addr} (n : Nat) (F : Fun K "pairs_in" "pairs_in" s_pairs_in f fd) (hb : Blt mg) (hc_PAIRS : mg "PAIRS" = some (.ref a_PAIRS)) (c_pairs_in : Cal P w K mg base (n + 0) "pairs_in" q_pairs_in (spD (P_pairs_in n))) (kp : KTup K a_PAIRS [.str wAnd, .str wOr]) : FnOk P w K mg base CX0 (n + 0 + 1) f fd q_pairs_in (spD (P_pairs_in (n + 1))) := by
  refine fnD F sc_pairs_in len_pairs_in (t := t_pairs_in K a_PAIRS n) (fun cdv A outer s H E hr => ?_) (w_pairs_in n kp)
  have hu64 := hr.units
  have hu := hu_of hr
  exact (pss_cons (ps_if (pt_cmpR (op_eqD hu64) (pe_ix ix_seq (pv 0) pe_int (fun _ _ => rfl)) pe_str (nomark _)) (pss_one (ps_ret pe_int)) pss_nil)
    (pss_one (ps_ret (pe_op op_addU (pe_callTy call_intU (by rfl) hb.int (by decide +kernel) (pa_cons (pe_cmpR op_inU (pe_ix ix_seq (pv 0) pe_int (fun _ _ => rfl)) (pe_glob rfl hc_PAIRS rfl) (by with_unfolding_all rfl)) pa_nil)) (pe_callB (cr_sum rfl) (by rfl) hb.sum (by decide +kernel) (pa_cons (pe_lc (own := [("one", 1)]) (by rfl) sc_pairs_in.nd (pi_seq (pe_slice sl_U (pv 0) (po_some pe_int) po_none)) (blkOk_by (own := [("one", 1)]) (N := n_pairs_in) (sc := defScope s_pairs_in) (by decide +kernel)) (fun _ _ _ _ _ => (pg_name (i := 1) sc_pairs_in.nd rfl (Or.inl rfl))) (fun _ _ _ _ _ => pts_nil) (fun _ _ _ _ _ => (pe_callC c_pairs_in (hr.mono (by omega)) rfl (pa_cons (pv 1) pa_nil)))) pa_nil))))))

theorem all_pairs_in {P : Program} {w : World} {K : PySem.W.Frag} {mg : Str → Option Value} {base : Heap} {a_PAIRS : Addr} {f_pairs_in : Addr} {d_pairs_in : FuncData} (F_pairs_in : Fun K "pairs_in" "pairs_in" s_pairs_in f_pairs_in d_pairs_in) (m_pairs_in : mg "pairs_in" = some (.ref f_pairs_in)) (B_pairs_in : Binds K d_pairs_in q_pairs_in []) (hb : Blt mg) (hc_PAIRS : mg "PAIRS" = some (.ref a_PAIRS)) (kp : KTup K a_PAIRS [.str wAnd, .str wOr]) : ∀ n : Nat, Cal P w K mg base (n + 0) "pairs_in" q_pairs_in (spD (P_pairs_in n))
  | 0 => cal_zero F_pairs_in.kp m_pairs_in B_pairs_in zero_pairs_in
  | n + 1 => by
    have c_pairs_in := all_pairs_in (P := P) (w := w) (base := base) F_pairs_in m_pairs_in B_pairs_in hb hc_PAIRS kp n
    have e : n + 1 + 0 = n + 0 + 1 := by omega
    rw [e]
    exact ⟨_, _, m_pairs_in, F_pairs_in.kp, B_pairs_in, ok_pairs_in n F_pairs_in hb hc_PAIRS c_pairs_in kp⟩

/-! ### need_condition -/
abbrev s_need_condition : Stmt := top 16
abbrev n_need_condition : List Str := ["part"]
abbrev q_need_condition : List Str := ["part"]
theorem sc_need_condition : FnScope n_need_condition q_need_condition (defScope s_need_condition) := ⟨rfl, rfl, rfl, by decide +kernel, rfl, by decide +kernel, by decide +kernel⟩

def P_need_condition : Pre := fun ds Ψ => ∃ c : Cn, ds = [c.D] ∧ c.ok ∧ c.deep ≤ 10 ∧ c.looks ≤ 12 ∧ Ψ .none
theorem len_need_condition : ∀ ds Ψ, P_need_condition ds Ψ → ds.length = 1 := fun ds Ψ ⟨_, e, _⟩ => by rw [e]; rfl

def t_need_condition (K : PySem.W.Frag) : TS :=
  (tIfS (tOr (tNot (tB (tCall (spD (P_is_condition 13)) [] E0 (tCons (tVar 0) (tCons (tC (.int 0)) tNil))))) (tTest (tOp rGtI (tCall (spD (P_looks_in 30)) [] E0 (tCons (tVar 0) tNil)) (tC (.int 12))))) tNever tNext)

theorem w_need_condition {K : PySem.W.Frag} : ∀ ds Ψ, P_need_condition ds Ψ → WS uS (t_need_condition K) () (init n_need_condition ds) (fun x _ => Ψ x) (fun _ _ => Ψ .none) := by
  rintro ds Ψ ⟨c, rfl, ok, hd, hl, q⟩
  unfold t_need_condition
  repeat walk_at "j"
  refine ⟨c.D, 0, rfl, by omega, by omega, by omega, okD_D c, Cn.shaped (by omega), ?_⟩
  rw [(isC_D c 0).mpr ⟨ok, by omega⟩]
  repeat walk_at "j"
  refine ⟨c, rfl, by omega, ?_⟩
  repeat walk_at "j"
  refine ifD (fun h => absurd h (by omega)) (fun _ => ?_)
  repeat walk_at "j"
  exact q

theorem ok_need_condition {P : Program} {w : World} {K : PySem.W.Frag} {mg : Str → Option Value} {base : Heap} {f : Addr} {fd : FuncData}  (F : Fun K "need_condition" "need_condition" s_need_condition f fd) (hb : Blt mg) (hc_MOST_LOOKS : ∃ t, mg "MOST_LOOKS" = some (.int 12 t)) (c_is_condition : Cal P w K mg base 13 "is_condition" q_is_condition (spD (P_is_condition 13))) (c_looks_in : Cal P w K mg base 30 "looks_in" q_looks_in (spD (P_looks_in 30)))  : FnOk P w K mg base CX0 31 f fd q_need_condition (spD P_need_condition) := by
  refine fnD F sc_need_condition len_need_condition (t := t_need_condition K) (fun cdv A outer s H E hr => ?_) (w_need_condition )
  have hu64 := hr.units
  have hu := hu_of hr
  exact (pss_one (ps_if (PW.pt (pw_or (pt_not (pt_val (pe_callC c_is_condition (hr.mono (by omega)) rfl (pa_cons (pv 0) (pa_cons pe_int pa_nil))))) (pw_or1 (pt_cmpR op_gtU (pe_callC c_looks_in (hr.mono (by omega)) rfl (pa_cons (pv 0) pa_nil)) (pe_globI rfl hc_MOST_LOOKS) (nomark _))))) (pss_one ps_never) pss_nil))

/-! ### turned_by -/
abbrev s_turned_by : Stmt := top 17
abbrev n_turned_by : List Str := ["part", "turns", "inner", "left", "one", "other"]
abbrev q_turned_by : List Str := ["part", "turns"]
theorem sc_turned_by : FnScope n_turned_by q_turned_by (defScope s_turned_by) := ⟨rfl, rfl, rfl, by decide +kernel, rfl, by decide +kernel, by decide +kernel⟩

def P_turned_by (n : Nat) : Pre := fun ds Ψ => ∃ (c : Cn) (ts : List Int), ds = [c.D, .list (ts.map .int)] ∧ c.deep < n ∧ c.pairs ≤ ts.length ∧ ts.length ≤ 1000 ∧ Ψ (.tuple [(c.turn ts).D, .list ((ts.drop c.pairs).map .int)])
theorem len_turned_by {n : Nat} : ∀ ds Ψ, P_turned_by n ds Ψ → ds.length = 2 := fun ds Ψ ⟨_, _, e, _⟩ => by rw [e]; rfl
theorem zero_turned_by : ∀ vs H Q E, ¬ spD (P_turned_by 0) vs H Q E := zeroD fun ds Ψ ⟨_, _, _, h, _⟩ => absurd h (Nat.not_lt_zero _)

def t_turned_by (K : PySem.W.Frag) (n : Nat) : TS :=
  (tSeq (tIfS (tTest (tOp (rEqD K) (tOp (rIx K) (tVar 0) (tC (.int 0))) (tC (.str "look")))) (tRet (tTup (tCons (tVar 0) (tCons (tVar 1) tNil)))) tNext)
  (tSeq (tIfS (tTest (tOp (rEqD K) (tOp (rIx K) (tVar 0) (tC (.int 0))) (tC (.str "not")))) (tSeq (tAsg (tCall (spD (P_turned_by n)) [] E0 (tCons (tOp (rIx K) (tVar 0) (tC (.int 1))) (tCons (tVar 1) tNil))) (gTup K 2 (gCons (gName 2) (gCons (gName 3) gNil))))
  (tRet (tTup (tCons (tTup (tCons (tC (.str "not")) (tCons (tVar 2) tNil))) (tCons (tVar 3) tNil))))) tNext)
  (tSeq (tAsg (tCall (spD (P_turned_by n)) [] E0 (tCons (tOp (rIx K) (tVar 0) (tC (.int 1))) (tCons (tSl (rSlU K) (tVar 1) (tPart (tC (.int 1))) tNoPart) tNil))) (gTup K 2 (gCons (gName 4) (gCons (gName 3) gNil))))
  (tSeq (tAsg (tCall (spD (P_turned_by n)) [] E0 (tCons (tOp (rIx K) (tVar 0) (tC (.int 2))) (tCons (tVar 3) tNil))) (gTup K 2 (gCons (gName 5) (gCons (gName 3) gNil))))
  (tRet (tTup (tCons (tIf (tTest (tOp (rEqD K) (tOp (rIx K) (tVar 1) (tC (.int 0))) (tC (.int 1)))) (tTup (tCons (tOp (rIx K) (tVar 0) (tC (.int 0))) (tCons (tVar 5) (tCons (tVar 4) tNil)))) (tTup (tCons (tOp (rIx K) (tVar 0) (tC (.int 0))) (tCons (tVar 4) (tCons (tVar 5) tNil))))) (tCons (tVar 3) tNil))))))))

theorem w_turned_by (n : Nat) {K : PySem.W.Frag} : ∀ ds Ψ, P_turned_by (n + 1) ds Ψ → WS uS (t_turned_by K n) () (init n_turned_by ds) (fun x _ => Ψ x) (fun _ _ => Ψ .none) := by
  rintro ds Ψ ⟨c, ts, rfl, hd, hp, hl, q⟩
  unfold t_turned_by
  cases c with
  | look i =>
    unfold Cn.D
    repeat walk_at "j"
    exact q
  | nt c =>
    have hd : c.deep + 1 < n + 1 := hd
    unfold Cn.D
    repeat walk_at "j"
    refine ⟨c, ts, rfl, by omega, hp, hl, ?_⟩
    repeat walk_at "j"
    exact q
  | pr b x y =>
    have hd : max x.deep y.deep + 1 < n + 1 := hd
    have hp : x.pairs + y.pairs + 1 ≤ ts.length := hp
    cases ts with
    | nil => exact absurd hp (by simp)
    | cons t ts =>
    have hp : x.pairs + y.pairs + 1 ≤ ts.length + 1 := hp
    have hl : ts.length + 1 ≤ 1000 := hl
    have nl := wOf_nl b
    have nn := wOf_nn b
    have so := wOf_so b
    rw [D_pr]
    repeat walk_at "j"
    refine rd_eqW so (by decide +kernel) ?_
    rw [show (wOf b == Str.ofString "look") = false from nl]
    repeat walk_at "j"
    refine rd_eqW so (by decide +kernel) ?_
    rw [show (wOf b == Str.ofString "not") = false from nn]
    repeat walk_at "j"
    refine rs_list ?_
    rw [List.map_cons, cutD_tail]
    repeat walk_at "j"
    refine ⟨x, ts, rfl, by omega, by omega, by omega, ?_⟩
    repeat walk_at "j"
    refine ⟨y, ts.drop x.pairs, rfl, by omega, by rw [List.length_drop]; omega, by rw [List.length_drop]; omega, ?_⟩
    repeat walk_at "j"
    refine rd_ixL at0 ?_
    repeat walk_at "j"
    have e1 : ts.drop (x.pairs + y.pairs) = (ts.drop x.pairs).drop y.pairs := by rw [List.drop_drop]
    refine ifD (fun h => ?_) (fun h => ?_)
    · repeat walk_at "j"
      refine Eq.mp (congrArg Ψ ?_) q
      rw [Cn.turn_cons, if_pos h, D_pr]
      show PyData.tuple [_, .list ((ts.drop (x.pairs + y.pairs)).map .int)] = _
      rw [e1]
    · repeat walk_at "j"
      refine Eq.mp (congrArg Ψ ?_) q
      rw [Cn.turn_cons, if_neg h, D_pr]
      show PyData.tuple [_, .list ((ts.drop (x.pairs + y.pairs)).map .int)] = _
      rw [e1]

theorem ok_turned_by {P : Program} {w : World} {K : PySem.W.Frag} {mg : Str → Option Value} {base : Heap} {f : Addr} {fd : FuncData}  (n : Nat) (F : Fun K "turned_by" "turned_by" s_turned_by f fd) (hb : Blt mg) (c_turned_by : Cal P w K mg base (n + 0) "turned_by" q_turned_by (spD (P_turned_by n)))  : FnOk P w K mg base CX0 (n + 0 + 1) f fd q_turned_by (spD (P_turned_by (n + 1))) := by
  refine fnD F sc_turned_by len_turned_by (t := t_turned_by K n) (fun cdv A outer s H E hr => ?_) (w_turned_by n )
  have hu64 := hr.units
  have hu := hu_of hr
  exact (pss_cons (ps_if (pt_cmpR (op_eqD hu64) (pe_ix ix_seq (pv 0) pe_int (fun _ _ => rfl)) pe_str (nomark _)) (pss_one (ps_ret (pe_tup (pa_cons (pv 0) (pa_cons (pv 1) pa_nil))))) pss_nil)
    (pss_cons (ps_if (pt_cmpR (op_eqD hu64) (pe_ix ix_seq (pv 0) pe_int (fun _ _ => rfl)) pe_str (nomark _)) (pss_cons (ps_asg (pe_callC c_turned_by (hr.mono (by omega)) rfl (pa_cons (pe_ix ix_seq (pv 0) pe_int (fun _ _ => rfl)) (pa_cons (pv 1) pa_nil))) (pg_tup rfl (pgs_cons (pg_name (i := 2) sc_turned_by.nd rfl (Or.inl rfl)) (pgs_cons (pg_name (i := 3) sc_turned_by.nd rfl (Or.inl rfl)) pgs_nil))))
    (pss_one (ps_ret (pe_tup (pa_cons (pe_tup (pa_cons pe_str (pa_cons (pv 2) pa_nil))) (pa_cons (pv 3) pa_nil)))))) pss_nil)
    (pss_cons (ps_asg (pe_callC c_turned_by (hr.mono (by omega)) rfl (pa_cons (pe_ix ix_seq (pv 0) pe_int (fun _ _ => rfl)) (pa_cons (pe_slice sl_U (pv 1) (po_some pe_int) po_none) pa_nil))) (pg_tup rfl (pgs_cons (pg_name (i := 4) sc_turned_by.nd rfl (Or.inl rfl)) (pgs_cons (pg_name (i := 3) sc_turned_by.nd rfl (Or.inl rfl)) pgs_nil))))
    (pss_cons (ps_asg (pe_callC c_turned_by (hr.mono (by omega)) rfl (pa_cons (pe_ix ix_seq (pv 0) pe_int (fun _ _ => rfl)) (pa_cons (pv 3) pa_nil))) (pg_tup rfl (pgs_cons (pg_name (i := 5) sc_turned_by.nd rfl (Or.inl rfl)) (pgs_cons (pg_name (i := 3) sc_turned_by.nd rfl (Or.inl rfl)) pgs_nil))))
    (pss_one (ps_ret (pe_tup (pa_cons (pe_ifExp (pt_cmpR (op_eqD hu64) (pe_ix ix_seq (pv 1) pe_int (fun _ _ => rfl)) pe_int (nomark _)) (pe_tup (pa_cons (pe_ix ix_seq (pv 0) pe_int (fun _ _ => rfl)) (pa_cons (pv 5) (pa_cons (pv 4) pa_nil)))) (pe_tup (pa_cons (pe_ix ix_seq (pv 0) pe_int (fun _ _ => rfl)) (pa_cons (pv 4) (pa_cons (pv 5) pa_nil))))) (pa_cons (pv 3) pa_nil)))))))))

theorem all_turned_by {P : Program} {w : World} {K : PySem.W.Frag} {mg : Str → Option Value} {base : Heap}  {f_turned_by : Addr} {d_turned_by : FuncData} (F_turned_by : Fun K "turned_by" "turned_by" s_turned_by f_turned_by d_turned_by) (m_turned_by : mg "turned_by" = some (.ref f_turned_by)) (B_turned_by : Binds K d_turned_by q_turned_by []) (hb : Blt mg)  : ∀ n : Nat, Cal P w K mg base (n + 0) "turned_by" q_turned_by (spD (P_turned_by n))
  | 0 => cal_zero F_turned_by.kp m_turned_by B_turned_by zero_turned_by
  | n + 1 => by
    have c_turned_by := all_turned_by (P := P) (w := w) (base := base) F_turned_by m_turned_by B_turned_by hb  n
    have e : n + 1 + 0 = n + 0 + 1 := by omega
    rw [e]
    exact ⟨_, _, m_turned_by, F_turned_by.kp, B_turned_by, ok_turned_by n F_turned_by hb c_turned_by⟩

/-! ### turned -/
abbrev s_turned : Stmt := top 18
abbrev n_turned : List Str := ["part", "turns", "turn"]
abbrev q_turned : List Str := ["part", "turns"]
theorem sc_turned : FnScope n_turned q_turned (defScope s_turned) := ⟨rfl, rfl, rfl, by decide +kernel, rfl, by decide +kernel, by decide +kernel⟩

def P_turned : Pre := fun ds Ψ => ∃ (c : Cn) (ts : List Int), ds = [c.D, .list (ts.map .int)] ∧ c.ok ∧ c.deep ≤ 10 ∧ c.looks ≤ 12 ∧ ts.length = c.pairs ∧ (∀ t ∈ ts, t = 0 ∨ t = 1) ∧ Ψ (c.turn ts).D
theorem len_turned : ∀ ds Ψ, P_turned ds Ψ → ds.length = 2 := fun ds Ψ ⟨_, _, e, _⟩ => by rw [e]; rfl

def t_turned (K : PySem.W.Frag) : TS :=
  (tSeq (tDrop (tCall (spD P_need_condition) [] E0 (tCons (tVar 0) tNil)))
  (tSeq (tIfS (tOr (tTest (tOp (rNeD K) (tCB (rLenU K) (tCons (tVar 1) tNil)) (tCall (spD (P_pairs_in 30)) [] E0 (tCons (tVar 0) tNil)))) (tTest (tOp (rNeD K) (tLc (iSeq K (tVar 1)) (gName 2) (tTest (tOp (rNiU K) (tVar 2) (tTup (tCons (tC (.int 0)) (tCons (tC (.int 1)) tNil))))) (tVar 2) [2]) (tLst tNil)))) tNever tNext)
  (tRet (tOp (rIx K) (tCall (spD (P_turned_by 30)) [] E0 (tCons (tVar 0) (tCons (tCB (rLstU K) (tCons (tVar 1) tNil)) tNil))) (tC (.int 0))))))

theorem w_turned {K : PySem.W.Frag} : ∀ ds Ψ, P_turned ds Ψ → WS uS (t_turned K) () (init n_turned ds) (fun x _ => Ψ x) (fun _ _ => Ψ .none) := by
  rintro ds Ψ ⟨c, ts, rfl, ok, hd, hl, hp, ht, q⟩
  have hpl := c.pairs_looks
  unfold t_turned
  repeat walk_at "j"
  refine ⟨c, rfl, ok, hd, hl, ?_⟩
  repeat walk_at "j"
  refine ⟨c, rfl, by omega, ?_⟩
  repeat walk_at "j"
  refine ifND (fun h => absurd (by rw [List.length_map, hp]) h) (fun _ => ?_)
  repeat walk_at "j"
  refine wp_lcF_list (gin_name (by decide)) ?_
  repeat walk_at "j"
  refine ⟨by rw [List.length_map]; omega, fun _ => false, id, fun d hd => ?_, ?_⟩
  · obtain ⟨i, hi, rfl⟩ := List.mem_map.mp hd
    have hb := ht i hi
    unfold LcF
    repeat walk_at "j"
    refine rd_niIT (ns := [0, 1]) rfl ?_
    repeat walk_at "j"
    have e : decide (i ∈ [(0 : Int), 1]) = true := decide_eq_true (by simpa using hb)
    rw [e]
    exact ⟨rfl, rfl, fun z => absurd z (by decide)⟩
  · have e : ((ts.map PyData.int).filter fun _ => false).map id = [] := by simp
    rw [e]
    repeat walk_at "j"
    refine rd_ne (by decide +kernel) (by decide +kernel) ?_
    repeat walk_at "j"
    refine rc_lstL ?_
    repeat walk_at "j"
    refine ⟨c, ts, rfl, by omega, by omega, by omega, ?_⟩
    repeat walk_at "j"
    exact q

theorem ok_turned {P : Program} {w : World} {K : PySem.W.Frag} {mg : Str → Option Value} {base : Heap} {f : Addr} {fd : FuncData}  (F : Fun K "turned" "turned" s_turned f fd) (hb : Blt mg) (c_need_condition : Cal P w K mg base 31 "need_condition" q_need_condition (spD P_need_condition)) (c_pairs_in : Cal P w K mg base 30 "pairs_in" q_pairs_in (spD (P_pairs_in 30))) (c_turned_by : Cal P w K mg base 30 "turned_by" q_turned_by (spD (P_turned_by 30)))  : FnOk P w K mg base CX0 32 f fd q_turned (spD P_turned) := by
  refine fnD F sc_turned len_turned (t := t_turned K) (fun cdv A outer s H E hr => ?_) (w_turned )
  have hu64 := hr.units
  have hu := hu_of hr
  exact (pss_cons (ps_expr (pe_callC c_need_condition (hr.mono (by omega)) rfl (pa_cons (pv 0) pa_nil)))
    (pss_cons (ps_if (PW.pt (pw_or (pt_cmpR (op_neD hu64) (pe_callB call_lenU (by rfl) hb.len (by decide +kernel) (pa_cons (pv 1) pa_nil)) (pe_callC c_pairs_in (hr.mono (by omega)) rfl (pa_cons (pv 0) pa_nil)) (nomark _)) (pw_or1 (pt_cmpR (op_neD hu64) (pe_lc (own := [("turn", 2)]) (by rfl) sc_turned.nd (pi_seq (pv 1)) (blkOk_by (own := [("turn", 2)]) (N := n_turned) (sc := defScope s_turned) (by decide +kernel)) (fun _ _ _ _ _ => (pg_name (i := 2) sc_turned.nd rfl (Or.inl rfl))) (fun _ _ _ _ _ => (pts_one (pt_cmpR op_niU (pv 2) (pe_tup (pa_cons pe_int (pa_cons pe_int pa_nil))) (by with_unfolding_all rfl)))) (fun _ _ _ _ _ => (pv 2))) (pe_lst pa_nil) (nomark _))))) (pss_one ps_never) pss_nil)
    (pss_one (ps_ret (pe_ix ix_seq (pe_callC c_turned_by (hr.mono (by omega)) rfl (pa_cons (pv 0) (pa_cons (pe_callTy call_lstU (by rfl) hb.list (by decide +kernel) (pa_cons (pv 1) pa_nil)) pa_nil))) pe_int (fun _ _ => rfl))))))

/-! ### gone -/
abbrev s_gone : Stmt := top 20
abbrev n_gone : List Str := ["part", "worths", "looks", "first"]
abbrev q_gone : List Str := ["part", "worths", "looks"]
theorem sc_gone : FnScope n_gone q_gone (defScope s_gone) := ⟨rfl, rfl, rfl, by decide +kernel, rfl, by decide +kernel, by decide +kernel⟩

def P_gone (n : Nat) : PreG := fun ds ns Ψ => ∃ (c : Cn) (ws : List Int), ds = [c.D, .tuple (ws.map .int)] ∧ c.ok ∧ Ws ws ∧ c.deep < n ∧ ns.length + c.looks ≤ 1000 ∧ Ψ (.int (c.val ws)) (ns ++ c.seen ws)
theorem len_gone {n : Nat} : ∀ ds ns Ψ, P_gone n ds ns Ψ → ds.length + 1 = q_gone.length := fun ds ns Ψ ⟨_, _, e, _⟩ => by rw [e]; rfl
theorem zero_gone : ∀ vs H Q E, ¬ spG (P_gone 0) vs H Q E := zeroG fun ds ns Ψ ⟨_, _, _, _, _, h, _⟩ => absurd h (Nat.not_lt_zero _)

def t_gone (K : PySem.W.Frag) (n : Nat) : TS :=
  (tSeq (tIfS (tTest (tOp (rEqD K) (tOp (rIx K) (tVar 0) (tC (.int 0))) (tC (.str "look")))) (tSeq (tDrop (tBM K "list" rAppend (tVar 2) (tCons (tOp (rIx K) (tVar 0) (tC (.int 1))) tNil)))
  (tRet (tOp (rIx K) (tVar 1) (tOp (rIx K) (tVar 0) (tC (.int 1)))))) tNext)
  (tSeq (tAsg (tCall (spG (P_gone n)) [] E0 (tCons (tOp (rIx K) (tVar 0) (tC (.int 1))) (tCons (tVar 1) (tCons (tVar 2) tNil)))) (gName 3))
  (tSeq (tIfS (tTest (tOp (rEqD K) (tOp (rIx K) (tVar 0) (tC (.int 0))) (tC (.str "not")))) (tRet (tOp rSubI (tC (.int 1)) (tVar 3))) tNext)
  (tSeq (tIfS (tTest (tOp (rEqD K) (tVar 3) (tCB rInt (tCons (tOp (rEqD K) (tOp (rIx K) (tVar 0) (tC (.int 0))) (tC (.str "or"))) tNil)))) (tRet (tVar 3)) tNext)
  (tRet (tCall (spG (P_gone n)) [] E0 (tCons (tOp (rIx K) (tVar 0) (tC (.int 2))) (tCons (tVar 1) (tCons (tVar 2) tNil)))))))))

theorem w_gone (n : Nat) {K : PySem.W.Frag} : ∀ p ds ns Ψ, P_gone (n + 1) ds ns Ψ → WS (lS p) (t_gone K n) ns (initG p n_gone ds) Ψ (fun _ => Ψ .none) := by
  rintro p ds ns Ψ ⟨c, ws, rfl, ok, hw, hd, hl, q⟩
  unfold t_gone
  cases c with
  | look i =>
    have hl : ns.length + 1 ≤ 1000 := hl
    unfold Cn.D
    repeat walk_at "j"
    refine ⟨by omega, ?_⟩
    repeat walk_at "j"
    refine rd_ixT (hw.at_ ok.1 ok.2).1 ?_
    exact q
  | nt c =>
    have hd : c.deep + 1 < n + 1 := hd
    unfold Cn.D
    repeat walk_at "j"
    refine wp_callG rfl ?_
    repeat walk_at "j"
    refine ⟨c, ws, rfl, ok, hw, by omega, hl, ?_⟩
    repeat walk_at "j"
    exact q
  | pr b x y =>
    have hd : max x.deep y.deep + 1 < n + 1 := hd
    have hl : ns.length + (x.looks + y.looks) ≤ 1000 := hl
    have hx := x.val_bit hw ok.1
    have hs := x.seen_len ws
    have eo : (if (wOr == Str.ofString "or") = true then (1 : Int) else 0) = 1 := if_pos (by decide +kernel)
    have ea : (if (wAnd == Str.ofString "or") = true then (1 : Int) else 0) = 0 := if_neg (by decide +kernel)
    cases b <;> unfold Cn.D
    all_goals
      repeat walk_at "j"
      refine wp_callG rfl ?_
      repeat walk_at "j"
      refine ⟨x, ws, rfl, ok.1, hw, by omega, by omega, ?_⟩
      repeat walk_at "j"
      first | rw [eo] | rw [ea]
      refine ifD (fun h => ?_) (fun h => ?_)
      · repeat walk_at "j"
        rw [(Cn.pr_stop h).1, (Cn.pr_stop h).2] at q
        exact q
      · repeat walk_at "j"
        refine wp_callG rfl ?_
        repeat walk_at "j"
        refine ⟨y, ws, rfl, ok.2, hw, by omega, by rw [List.length_append]; omega, ?_⟩
        rw [(Cn.pr_go h).1, (Cn.pr_go h).2] at q
        rw [List.append_assoc]
        exact q

theorem ok_gone {P : Program} {w : World} {K : PySem.W.Frag} {mg : Str → Option Value} {base : Heap} {f : Addr} {fd : FuncData}  (n : Nat) (F : Fun K "gone" "gone" s_gone f fd) (hb : Blt mg) (c_gone : Cal P w K mg base (n + 0) "gone" q_gone (spG (P_gone n)))  : FnOk P w K mg base CX0 (n + 0 + 1) f fd q_gone (spG (P_gone (n + 1))) := by
  refine fnG F sc_gone len_gone (t := t_gone K n) (fun cdv A outer s H E hr => ?_) (w_gone n )
  have hu64 := hr.units
  have hu := hu_of hr
  exact (pss_cons (ps_if (pt_cmpR (op_eqD hu64) (pe_ix ix_seq (pv 0) pe_int (fun _ _ => rfl)) pe_str (nomark _)) (pss_cons (ps_expr (pe_bm PySem.F.plainAttrs_list PySem.F.slot_list_append PySem.F.type_list_append mt_append (pv 2) (pa_cons (pe_ix ix_seq (pv 0) pe_int (fun _ _ => rfl)) pa_nil)))
    (pss_one (ps_ret (pe_ix ix_seq (pv 1) (pe_ix ix_seq (pv 0) pe_int (fun _ _ => rfl)) (fun _ _ => rfl))))) pss_nil)
    (pss_cons (ps_set (i := 3) sc_gone.nd rfl (Or.inl rfl) (pe_callC c_gone (hr.mono (by omega)) rfl (pa_cons (pe_ix ix_seq (pv 0) pe_int (fun _ _ => rfl)) (pa_cons (pv 1) (pa_cons (pv 2) pa_nil)))))
    (pss_cons (ps_if (pt_cmpR (op_eqD hu64) (pe_ix ix_seq (pv 0) pe_int (fun _ _ => rfl)) pe_str (nomark _)) (pss_one (ps_ret (pe_op op_subU pe_int (pv 3)))) pss_nil)
    (pss_cons (ps_if (pt_cmpR (op_eqD hu64) (pv 3) (pe_callTy call_intU (by rfl) hb.int (by decide +kernel) (pa_cons (pe_cmpR (op_eqD hu64) (pe_ix ix_seq (pv 0) pe_int (fun _ _ => rfl)) pe_str (nomark _)) pa_nil)) (nomark _)) (pss_one (ps_ret (pv 3))) pss_nil)
    (pss_one (ps_ret (pe_callC c_gone (hr.mono (by omega)) rfl (pa_cons (pe_ix ix_seq (pv 0) pe_int (fun _ _ => rfl)) (pa_cons (pv 1) (pa_cons (pv 2) pa_nil))))))))))

theorem all_gone {P : Program} {w : World} {K : PySem.W.Frag} {mg : Str → Option Value} {base : Heap}  {f_gone : Addr} {d_gone : FuncData} (F_gone : Fun K "gone" "gone" s_gone f_gone d_gone) (m_gone : mg "gone" = some (.ref f_gone)) (B_gone : Binds K d_gone q_gone []) (hb : Blt mg)  : ∀ n : Nat, Cal P w K mg base (n + 0) "gone" q_gone (spG (P_gone n))
  | 0 => cal_zero F_gone.kp m_gone B_gone zero_gone
  | n + 1 => by
    have c_gone := all_gone (P := P) (w := w) (base := base) F_gone m_gone B_gone hb  n
    have e : n + 1 + 0 = n + 0 + 1 := by omega
    rw [e]
    exact ⟨_, _, m_gone, F_gone.kp, B_gone, ok_gone n F_gone hb c_gone⟩

/-! ### told_by -/
abbrev s_told_by : Stmt := top 21
abbrev n_told_by : List Str := ["part", "worths", "looks", "worth"]
abbrev q_told_by : List Str := ["part", "worths"]
theorem sc_told_by : FnScope n_told_by q_told_by (defScope s_told_by) := ⟨rfl, rfl, rfl, by decide +kernel, rfl, by decide +kernel, by decide +kernel⟩

def P_told_by : Pre := fun ds Ψ => ∃ (c : Cn) (ws : List Int), ds = [c.D, .tuple (ws.map .int)] ∧ c.ok ∧ Ws ws ∧ c.deep ≤ 10 ∧ c.looks ≤ 12 ∧ Ψ (.tuple [.int (c.val ws), .list ((c.seen ws).map .int)])
theorem len_told_by : ∀ ds Ψ, P_told_by ds Ψ → ds.length = 2 := fun ds Ψ ⟨_, _, e, _⟩ => by rw [e]; rfl

def t_told_by (K : PySem.W.Frag) : TS :=
  (tSeq (tAsg (tLst tNil) (gName 2))
  (tSeq (tAsg (tCall (spG (P_gone 12)) [] E0 (tCons (tVar 0) (tCons (tVar 1) (tCons (tVar 2) tNil)))) (gName 3))
  (tRet (tTup (tCons (tVar 3) (tCons (tVar 2) tNil))))))

theorem w_told_by {K : PySem.W.Frag} : ∀ ds Ψ, P_told_by ds Ψ → WS uS (t_told_by K) () (init n_told_by ds) (fun x _ => Ψ x) (fun _ _ => Ψ .none) := by
  rintro ds Ψ ⟨c, ws, rfl, ok, hw, hd, hl, q⟩
  unfold t_told_by
  iterate 6 walk_at "jo"
  refine ws_callG (i := 2) (j := 3) (ns := []) ?h (by decide) ?_
  case h => exact rfl
  repeat walk_at "j"
  refine ⟨c, ws, rfl, ok, hw, by omega, by show 0 + c.looks ≤ 1000; omega, ?_⟩
  repeat walk_at "j"
  exact q

theorem ok_told_by {P : Program} {w : World} {K : PySem.W.Frag} {mg : Str → Option Value} {base : Heap} {f : Addr} {fd : FuncData}  (F : Fun K "told_by" "told_by" s_told_by f fd) (hb : Blt mg) (c_gone : Cal P w K mg base 12 "gone" q_gone (spG (P_gone 12)))  : FnOk P w K mg base CX0 13 f fd q_told_by (spD P_told_by) := by
  refine fnD F sc_told_by len_told_by (t := t_told_by K) (fun cdv A outer s H E hr => ?_) (w_told_by )
  have hu64 := hr.units
  have hu := hu_of hr
  exact (pss_cons (ps_set (i := 2) sc_told_by.nd rfl (Or.inl rfl) (pe_lst pa_nil))
    (pss_cons (ps_set (i := 3) sc_told_by.nd rfl (Or.inl rfl) (pe_callC c_gone (hr.mono (by omega)) rfl (pa_cons (pv 0) (pa_cons (pv 1) (pa_cons (pv 2) pa_nil)))))
    (pss_one (ps_ret (pe_tup (pa_cons (pv 3) (pa_cons (pv 2) pa_nil)))))))

/-! ### all_worths -/
abbrev s_all_worths : Stmt := top 22
abbrev n_all_worths : List Str := ["found", "thing", "longer", "worths"]
abbrev q_all_worths : List Str := []
theorem sc_all_worths : FnScope n_all_worths q_all_worths (defScope s_all_worths) := ⟨rfl, rfl, rfl, by decide +kernel, rfl, by decide +kernel, by decide +kernel⟩

def P_all_worths : Pre := fun ds Ψ => ds = [] ∧ Ψ (.list (AW.map wD))
theorem len_all_worths : ∀ ds Ψ, P_all_worths ds Ψ → ds.length = 0 := fun ds Ψ ⟨e, _⟩ => by rw [e]; rfl

def t_all_worths (K : PySem.W.Frag) : TS :=
  (tSeq (tAsg (tLst (tCons (tTup tNil) tNil)) (gName 0))
  (tSeq (tFor (iRng1 (tCons (tC (.int 8)) tNil)) (gName 1) (tSeq (tAsg (tLst tNil) (gName 2))
  (tSeq (tFor (iSeq K (tVar 0)) (gName 3) (tDrop (tBM K "list" rExtend (tVar 2) (tCons (tLst (tCons (tOp (rAddU K) (tVar 3) (tTup (tCons (tC (.int 0)) tNil))) (tCons (tOp (rAddU K) (tVar 3) (tTup (tCons (tC (.int 1)) tNil))) tNil))) tNil))))
  (tAsg (tVar 2) (gName 0)))))
  (tRet (tVar 0))))

theorem w_all_worths {K : PySem.W.Frag} : ∀ ds Ψ, P_all_worths ds Ψ → WS uS (t_all_worths K) () (init n_all_worths ds) (fun x _ => Ψ x) (fun _ _ => Ψ .none) := by
  rintro ds Ψ ⟨rfl, q⟩
  unfold t_all_worths
  repeat walk_at "j"
  refine ws_for_rangeC (fun k => [some (.d (.list ((allB k).map wD))), none, none, none]) ?_
  repeat walk_at "j"
  refine ⟨by decide, by decide, by repeat constructor, fun k s' hk => ?_, fun s' => ?_⟩
  · have hlen : (allB k).length ≤ 256 := by
      rw [allB_len]
      exact Nat.le_trans (Nat.pow_le_pow_right (by decide) (show k ≤ 8 by omega)) (by decide)
    repeat walk_at "jo"
    refine ws_for_listC (fun i => [some (.d (.list ((allB k).map wD))), none, some (.own ((((allB k).take i).flatMap fun w => [w ++ [0], w ++ [1]]).map wD)), none]) ?_
    repeat walk_at "j"
    refine ⟨by repeat constructor, fun i d s' hi => ?_, fun s' => ?_⟩
    · rw [List.getElem?_map] at hi
      cases e : (allB k)[i]? with
      | none => rw [e] at hi; cases hi
      | some w =>
        rw [e] at hi
        cases hi
        have hw := allB_item k w (List.mem_of_getElem? e)
        have hi' := (List.getElem?_eq_some_iff.mp e).1
        have hnext : (((allB k).take (i + 1)).flatMap fun w => [w ++ [0], w ++ [1]]).map wD = (((allB k).take i).flatMap fun w => [w ++ [0], w ++ [1]]).map wD ++ [.tuple (w.map .int ++ [.int 0]), .tuple (w.map .int ++ [.int 1])] := by
          rw [take_snoc e, List.flatMap_append, List.map_append]
          simp [wD]
        have hol : ((((allB k).take i).flatMap fun w => [w ++ [0], w ++ [1]]).map wD).length ≤ 512 := by
          have h : ∀ l : List (List Int), (l.flatMap fun w => [w ++ [0], w ++ [1]]).length = l.length * 2 := fun l => by
            induction l with
            | nil => rfl
            | cons a r ih => rw [List.flatMap_cons, List.length_append, ih]; show 2 + _ = (r.length + 1) * 2; omega
          rw [List.length_map, h, List.length_take]
          omega
        rw [hnext]
        generalize (((allB k).take i).flatMap fun w => [w ++ [0], w ++ [1]]).map wD = old at hol ⊢
        unfold wD
        repeat walk_at "j"
        refine rd_addT (by rw [List.length_map, hw]; show k + 1 ≤ 100000; omega) ?_
        repeat walk_at "j"
        refine rd_addT (by rw [List.length_map, hw]; show k + 1 ≤ 100000; omega) ?_
        repeat walk_at "j"
        refine ⟨by show old.length + 2 ≤ 100000; omega, ?_⟩
        repeat constructor
    · dsimp only
      rw [List.length_map, List.take_length]
      repeat walk_at "j"
      show LeE [some (.d (.list ((allB (k + 1)).map wD))), none, none, none] _
      repeat constructor
  · have e : (8 : Int).toNat = 8 := rfl
    rw [e, allB_8]
    repeat walk_at "j"
    exact q

theorem ok_all_worths {P : Program} {w : World} {K : PySem.W.Frag} {mg : Str → Option Value} {base : Heap} {f : Addr} {fd : FuncData}  (F : Fun K "all_worths" "all_worths" s_all_worths f fd) (hb : Blt mg) (hc_THINGS : ∃ t, mg "THINGS" = some (.int 8 t))  : FnOk P w K mg base CX0 1 f fd q_all_worths (spD P_all_worths) := by
  refine fnD F sc_all_worths len_all_worths (t := t_all_worths K) (fun cdv A outer s H E hr => ?_) (w_all_worths )
  have hu64 := hr.units
  have hu := hu_of hr
  exact (pss_cons (ps_set (i := 0) sc_all_worths.nd rfl (Or.inl rfl) (pe_lst (pa_cons (pe_tup pa_nil) pa_nil)))
    (pss_cons (ps_for PassesOwn.never rfl (pi_range1 (by rfl) hb.range (pa_cons (pe_globI rfl hc_THINGS) pa_nil)) (pg_name (i := 1) sc_all_worths.nd rfl (Or.inl rfl)) (pss_cons (ps_set (i := 2) sc_all_worths.nd rfl (Or.inl rfl) (pe_lst pa_nil))
    (pss_cons (ps_for PassesOwn.never rfl (pi_seq (pv 0)) (pg_name (i := 3) sc_all_worths.nd rfl (Or.inl rfl)) (pss_one (ps_expr (pe_bm PySem.F.plainAttrs_list PySem.F.slot_list_extend PySem.F.type_list_extend mt_extend (pv 2) (pa_cons (pe_lst (pa_cons (pe_op op_addU (pv 3) (pe_tup (pa_cons pe_int pa_nil))) (pa_cons (pe_op op_addU (pv 3) (pe_tup (pa_cons pe_int pa_nil))) pa_nil))) pa_nil)))))
    (pss_one (ps_set (i := 0) sc_all_worths.nd rfl (Or.inl rfl) (pv 2))))))
    (pss_one (ps_ret (pv 0)))))

/-! ### need_end -/
abbrev s_need_end : Stmt := top 24
abbrev n_need_end : List Str := ["worth"]
abbrev q_need_end : List Str := ["worth"]
theorem sc_need_end : FnScope n_need_end q_need_end (defScope s_need_end) := ⟨rfl, rfl, rfl, by decide +kernel, rfl, by decide +kernel, by decide +kernel⟩

def P_need_end : Pre := fun ds Ψ => ∃ f : Int, ds = [.int f] ∧ (f = 0 ∨ f = 1) ∧ Ψ .none
theorem len_need_end : ∀ ds Ψ, P_need_end ds Ψ → ds.length = 1 := fun ds Ψ ⟨_, e, _⟩ => by rw [e]; rfl

def t_need_end (K : PySem.W.Frag) : TS :=
  (tIfS (tTest (tOp (rNiU K) (tVar 0) (tTup (tCons (tC (.int 0)) (tCons (tC (.int 1)) tNil))))) tNever tNext)

theorem w_need_end {K : PySem.W.Frag} : ∀ ds Ψ, P_need_end ds Ψ → WS uS (t_need_end K) () (init n_need_end ds) (fun x _ => Ψ x) (fun _ _ => Ψ .none) := by
  rintro ds Ψ ⟨f, rfl, hf, q⟩
  unfold t_need_end
  repeat walk_at "j"
  refine rd_niIT (ns := [0, 1]) rfl ?_
  rw [decide_eq_true (show f ∈ [(0 : Int), 1] by simpa using hf)]
  repeat walk_at "j"
  exact q

theorem ok_need_end {P : Program} {w : World} {K : PySem.W.Frag} {mg : Str → Option Value} {base : Heap} {f : Addr} {fd : FuncData}  (F : Fun K "need_end" "need_end" s_need_end f fd) (hb : Blt mg)   : FnOk P w K mg base CX0 1 f fd q_need_end (spD P_need_end) := by
  refine fnD F sc_need_end len_need_end (t := t_need_end K) (fun cdv A outer s H E hr => ?_) (w_need_end )
  have hu64 := hr.units
  have hu := hu_of hr
  exact (pss_one (ps_if (pt_cmpR op_niU (pv 0) (pe_tup (pa_cons pe_int (pa_cons pe_int pa_nil))) (by with_unfolding_all rfl)) (pss_one ps_never) pss_nil))

/-! ### rows_of -/
abbrev s_rows_of : Stmt := top 25
abbrev n_rows_of : List Str := ["part", "begin", "yes", "no", "half"]
abbrev q_rows_of : List Str := ["part", "begin", "yes", "no"]
theorem sc_rows_of : FnScope n_rows_of q_rows_of (defScope s_rows_of) := ⟨rfl, rfl, rfl, by decide +kernel, rfl, by decide +kernel, by decide +kernel⟩

def P_rows_of (n : Nat) : Pre := fun ds Ψ => ∃ (c : Cn) (b y m : Int), ds = [c.D, .int b, .int y, .int m] ∧ c.deep < n ∧ c.deep < 30 ∧ c.looks ≤ 1000 ∧ Ψ (.list ((c.rows b y m).map Row.D))
theorem len_rows_of {n : Nat} : ∀ ds Ψ, P_rows_of n ds Ψ → ds.length = 4 := fun ds Ψ ⟨_, _, _, _, e, _⟩ => by rw [e]; rfl
theorem zero_rows_of : ∀ vs H Q E, ¬ spD (P_rows_of 0) vs H Q E := zeroD fun ds Ψ ⟨_, _, _, _, _, h, _⟩ => absurd h (Nat.not_lt_zero _)

def t_rows_of (K : PySem.W.Frag) (n : Nat) : TS :=
  (tSeq (tIfS (tTest (tOp (rEqD K) (tOp (rIx K) (tVar 0) (tC (.int 0))) (tC (.str "look")))) (tRet (tLst (tCons (tIf (tTest (tOp (rEqD K) (tVar 2) (tOp (rAddU K) (tVar 1) (tC (.int 1))))) (tTup (tCons (tC (.str "look")) (tCons (tOp (rIx K) (tVar 0) (tC (.int 1))) (tCons (tC (.int 0)) (tCons (tVar 3) tNil))))) (tTup (tCons (tC (.str "look")) (tCons (tOp (rIx K) (tVar 0) (tC (.int 1))) (tCons (tC (.int 1)) (tCons (tVar 2) tNil)))))) tNil))) tNext)
  (tSeq (tIfS (tTest (tOp (rEqD K) (tOp (rIx K) (tVar 0) (tC (.int 0))) (tC (.str "not")))) (tRet (tCall (spD (P_rows_of n)) [] E0 (tCons (tOp (rIx K) (tVar 0) (tC (.int 1))) (tCons (tVar 1) (tCons (tVar 3) (tCons (tVar 2) tNil)))))) tNext)
  (tSeq (tAsg (tOp (rAddU K) (tVar 1) (tCall (spD (P_looks_in 30)) [] E0 (tCons (tOp (rIx K) (tVar 0) (tC (.int 1))) tNil))) (gName 4))
  (tSeq (tIfS (tTest (tOp (rEqD K) (tOp (rIx K) (tVar 0) (tC (.int 0))) (tC (.str "and")))) (tRet (tOp (rAddU K) (tCall (spD (P_rows_of n)) [] E0 (tCons (tOp (rIx K) (tVar 0) (tC (.int 1))) (tCons (tVar 1) (tCons (tVar 4) (tCons (tVar 3) tNil))))) (tCall (spD (P_rows_of n)) [] E0 (tCons (tOp (rIx K) (tVar 0) (tC (.int 2))) (tCons (tVar 4) (tCons (tVar 2) (tCons (tVar 3) tNil))))))) tNext)
  (tRet (tOp (rAddU K) (tCall (spD (P_rows_of n)) [] E0 (tCons (tOp (rIx K) (tVar 0) (tC (.int 1))) (tCons (tVar 1) (tCons (tVar 2) (tCons (tVar 4) tNil))))) (tCall (spD (P_rows_of n)) [] E0 (tCons (tOp (rIx K) (tVar 0) (tC (.int 2))) (tCons (tVar 4) (tCons (tVar 2) (tCons (tVar 3) tNil)))))))))))

theorem w_rows_of (n : Nat) {K : PySem.W.Frag} : ∀ ds Ψ, P_rows_of (n + 1) ds Ψ → WS uS (t_rows_of K n) () (init n_rows_of ds) (fun x _ => Ψ x) (fun _ _ => Ψ .none) := by
  rintro ds Ψ ⟨c, b, y, m, rfl, hd, hd2, hl, q⟩
  unfold t_rows_of
  cases c with
  | look i =>
    unfold Cn.D
    repeat walk_at "j"
    simp only [Cn.rows, rowAt] at q
    refine ifD (fun h => ?_) (fun h => ?_)
    · repeat walk_at "j"
      rw [if_pos h] at q
      exact q
    · repeat walk_at "j"
      rw [if_neg h] at q
      exact q
  | nt c =>
    have hd : c.deep + 1 < n + 1 := hd
    have hd2 : c.deep + 1 < 30 := hd2
    unfold Cn.D
    repeat walk_at "j"
    exact ⟨c, b, m, y, rfl, by omega, by omega, hl, q⟩
  | pr k x d =>
    have hd : max x.deep d.deep + 1 < n + 1 := hd
    have hd2 : max x.deep d.deep + 1 < 30 := hd2
    have hl : x.looks + d.looks ≤ 1000 := hl
    cases k <;> unfold Cn.D
    all_goals
      repeat walk_at "j"
      refine ⟨x, rfl, by omega, ?_⟩
      repeat walk_at "j"
      refine ⟨x, _, _, _, rfl, by omega, by omega, by omega, ?_⟩
      repeat walk_at "j"
      refine ⟨d, _, _, _, rfl, by omega, by omega, by omega, ?_⟩
      refine rd_addL (by rw [List.length_map, List.length_map, x.rows_len, d.rows_len]; omega) ?_
      simp only [Cn.rows, List.map_append] at q
      exact q

theorem ok_rows_of {P : Program} {w : World} {K : PySem.W.Frag} {mg : Str → Option Value} {base : Heap} {f : Addr} {fd : FuncData}  (n : Nat) (F : Fun K "rows_of" "rows_of" s_rows_of f fd) (hb : Blt mg) (c_rows_of : Cal P w K mg base (n + 30) "rows_of" q_rows_of (spD (P_rows_of n))) (c_looks_in : Cal P w K mg base 30 "looks_in" q_looks_in (spD (P_looks_in 30)))  : FnOk P w K mg base CX0 (n + 30 + 1) f fd q_rows_of (spD (P_rows_of (n + 1))) := by
  refine fnD F sc_rows_of len_rows_of (t := t_rows_of K n) (fun cdv A outer s H E hr => ?_) (w_rows_of n )
  have hu64 := hr.units
  have hu := hu_of hr
  exact (pss_cons (ps_if (pt_cmpR (op_eqD hu64) (pe_ix ix_seq (pv 0) pe_int (fun _ _ => rfl)) pe_str (nomark _)) (pss_one (ps_ret (pe_lst (pa_cons (pe_ifExp (pt_cmpR (op_eqD hu64) (pv 2) (pe_op op_addU (pv 1) pe_int) (nomark _)) (pe_tup (pa_cons pe_str (pa_cons (pe_ix ix_seq (pv 0) pe_int (fun _ _ => rfl)) (pa_cons pe_int (pa_cons (pv 3) pa_nil))))) (pe_tup (pa_cons pe_str (pa_cons (pe_ix ix_seq (pv 0) pe_int (fun _ _ => rfl)) (pa_cons pe_int (pa_cons (pv 2) pa_nil)))))) pa_nil)))) pss_nil)
    (pss_cons (ps_if (pt_cmpR (op_eqD hu64) (pe_ix ix_seq (pv 0) pe_int (fun _ _ => rfl)) pe_str (nomark _)) (pss_one (ps_ret (pe_callC c_rows_of (hr.mono (by omega)) rfl (pa_cons (pe_ix ix_seq (pv 0) pe_int (fun _ _ => rfl)) (pa_cons (pv 1) (pa_cons (pv 3) (pa_cons (pv 2) pa_nil))))))) pss_nil)
    (pss_cons (ps_set (i := 4) sc_rows_of.nd rfl (Or.inl rfl) (pe_op op_addU (pv 1) (pe_callC c_looks_in (hr.mono (by omega)) rfl (pa_cons (pe_ix ix_seq (pv 0) pe_int (fun _ _ => rfl)) pa_nil))))
    (pss_cons (ps_if (pt_cmpR (op_eqD hu64) (pe_ix ix_seq (pv 0) pe_int (fun _ _ => rfl)) pe_str (nomark _)) (pss_one (ps_ret (pe_op op_addU (pe_callC c_rows_of (hr.mono (by omega)) rfl (pa_cons (pe_ix ix_seq (pv 0) pe_int (fun _ _ => rfl)) (pa_cons (pv 1) (pa_cons (pv 4) (pa_cons (pv 3) pa_nil))))) (pe_callC c_rows_of (hr.mono (by omega)) rfl (pa_cons (pe_ix ix_seq (pv 0) pe_int (fun _ _ => rfl)) (pa_cons (pv 4) (pa_cons (pv 2) (pa_cons (pv 3) pa_nil)))))))) pss_nil)
    (pss_one (ps_ret (pe_op op_addU (pe_callC c_rows_of (hr.mono (by omega)) rfl (pa_cons (pe_ix ix_seq (pv 0) pe_int (fun _ _ => rfl)) (pa_cons (pv 1) (pa_cons (pv 2) (pa_cons (pv 4) pa_nil))))) (pe_callC c_rows_of (hr.mono (by omega)) rfl (pa_cons (pe_ix ix_seq (pv 0) pe_int (fun _ _ => rfl)) (pa_cons (pv 4) (pa_cons (pv 2) (pa_cons (pv 3) pa_nil))))))))))))

theorem all_rows_of {P : Program} {w : World} {K : PySem.W.Frag} {mg : Str → Option Value} {base : Heap}  {f_rows_of : Addr} {d_rows_of : FuncData} (F_rows_of : Fun K "rows_of" "rows_of" s_rows_of f_rows_of d_rows_of) (m_rows_of : mg "rows_of" = some (.ref f_rows_of)) (B_rows_of : Binds K d_rows_of q_rows_of []) (hb : Blt mg) (c_looks_in : Cal P w K mg base 30 "looks_in" q_looks_in (spD (P_looks_in 30))) : ∀ n : Nat, Cal P w K mg base (n + 30) "rows_of" q_rows_of (spD (P_rows_of n))
  | 0 => cal_zero F_rows_of.kp m_rows_of B_rows_of zero_rows_of
  | n + 1 => by
    have c_rows_of := all_rows_of (P := P) (w := w) (base := base) F_rows_of m_rows_of B_rows_of hb c_looks_in n
    have e : n + 1 + 30 = n + 30 + 1 := by omega
    rw [e]
    exact ⟨_, _, m_rows_of, F_rows_of.kp, B_rows_of, ok_rows_of n F_rows_of hb c_rows_of c_looks_in⟩

/-! ### code_of -/
abbrev s_code_of : Stmt := top 26
abbrev n_code_of : List Str := ["part", "first", "many", "yes"]
abbrev q_code_of : List Str := ["part", "first"]
theorem sc_code_of : FnScope n_code_of q_code_of (defScope s_code_of) := ⟨rfl, rfl, rfl, by decide +kernel, rfl, by decide +kernel, by decide +kernel⟩

def P_code_of : Pre := fun ds Ψ => ∃ (c : Cn) (f : Int), ds = [c.D, .int f] ∧ c.deep < 30 ∧ c.looks ≤ 1000 ∧ Ψ (.list (c.code f))
theorem len_code_of : ∀ ds Ψ, P_code_of ds Ψ → ds.length = 2 := fun ds Ψ ⟨_, _, e, _⟩ => by rw [e]; rfl

def t_code_of (K : PySem.W.Frag) : TS :=
  (tSeq (tAsg (tCall (spD (P_looks_in 30)) [] E0 (tCons (tVar 0) tNil)) (gName 2))
  (tSeq (tAsg (tOp (rAddU K) (tVar 2) (tCB rInt (tCons (tOp (rEqD K) (tVar 1) (tC (.int 0))) tNil))) (gName 3))
  (tRet (tOp (rAddU K) (tCall (spD (P_rows_of 30)) [] E0 (tCons (tVar 0) (tCons (tC (.int 0)) (tCons (tVar 3) (tCons (tOp rSubI (tOp (rAddU K) (tOp (rMulU K) (tC (.int 2)) (tVar 2)) (tC (.int 1))) (tVar 3)) tNil))))) (tLst (tCons (tTup (tCons (tC (.str "end")) (tCons (tVar 1) tNil))) (tCons (tTup (tCons (tC (.str "end")) (tCons (tOp rSubI (tC (.int 1)) (tVar 1)) tNil))) tNil)))))))

theorem w_code_of {K : PySem.W.Frag} : ∀ ds Ψ, P_code_of ds Ψ → WS uS (t_code_of K) () (init n_code_of ds) (fun x _ => Ψ x) (fun _ _ => Ψ .none) := by
  rintro ds Ψ ⟨c, f, rfl, hd, hl, q⟩
  unfold t_code_of
  repeat walk_at "j"
  refine ⟨c, rfl, hd, ?_⟩
  repeat walk_at "j"
  refine rd_mulI (.inl ⟨by decide, by decide⟩) ?_
  repeat walk_at "j"
  have e : (c.looks : Int) + (if decide (f = 0) = true then 1 else 0) = c.yes f := by
    unfold Cn.yes
    by_cases h : f = 0
    · rw [if_pos (decide_eq_true h), if_pos h]
    · rw [if_neg (by rw [decide_eq_false h]; decide), if_neg h]
  rw [e]
  refine ⟨c, _, _, _, rfl, hd, hd, hl, ?_⟩
  repeat walk_at "j"
  refine rd_addL (by rw [List.length_map, c.rows_len]; show c.looks + 2 ≤ 100000; omega) ?_
  exact q

theorem ok_code_of {P : Program} {w : World} {K : PySem.W.Frag} {mg : Str → Option Value} {base : Heap} {f : Addr} {fd : FuncData}  (F : Fun K "code_of" "code_of" s_code_of f fd) (hb : Blt mg) (c_looks_in : Cal P w K mg base 30 "looks_in" q_looks_in (spD (P_looks_in 30))) (c_rows_of : Cal P w K mg base 60 "rows_of" q_rows_of (spD (P_rows_of 30)))  : FnOk P w K mg base CX0 61 f fd q_code_of (spD P_code_of) := by
  refine fnD F sc_code_of len_code_of (t := t_code_of K) (fun cdv A outer s H E hr => ?_) (w_code_of )
  have hu64 := hr.units
  have hu := hu_of hr
  exact (pss_cons (ps_set (i := 2) sc_code_of.nd rfl (Or.inl rfl) (pe_callC c_looks_in (hr.mono (by omega)) rfl (pa_cons (pv 0) pa_nil)))
    (pss_cons (ps_set (i := 3) sc_code_of.nd rfl (Or.inl rfl) (pe_op op_addU (pv 2) (pe_callTy call_intU (by rfl) hb.int (by decide +kernel) (pa_cons (pe_cmpR (op_eqD hu64) (pv 1) pe_int (nomark _)) pa_nil))))
    (pss_one (ps_ret (pe_op op_addU (pe_callC c_rows_of (hr.mono (by omega)) rfl (pa_cons (pv 0) (pa_cons pe_int (pa_cons (pv 3) (pa_cons (pe_op op_subU (pe_op op_addU (pe_op op_mulU pe_int (pv 2)) pe_int) (pv 3)) pa_nil))))) (pe_lst (pa_cons (pe_tup (pa_cons pe_str (pa_cons (pv 1) pa_nil))) (pa_cons (pe_tup (pa_cons pe_str (pa_cons (pe_op op_subU pe_int (pv 1)) pa_nil))) pa_nil))))))))

/-! ### run_by -/
abbrev s_run_by : Stmt := top 27
abbrev n_run_by : List Str := ["rows", "worths", "place", "looks", "jumps", "word", "thing", "when", "to"]
abbrev q_run_by : List Str := ["rows", "worths"]
theorem sc_run_by : FnScope n_run_by q_run_by (defScope s_run_by) := ⟨rfl, rfl, rfl, by decide +kernel, rfl, by decide +kernel, by decide +kernel⟩

def P_run_by : Pre := fun ds Ψ => ∃ (R : List Row) (f : Int) (ws : List Int), ds = [.list (codeD R f), .tuple (ws.map .int)] ∧ Code R f ∧ Ws ws ∧ Ψ (.tuple [.int (endAt R f (runOf R ws).1), .list ((runOf R ws).2.1.map .int), .int (runOf R ws).2.2])
theorem len_run_by : ∀ ds Ψ, P_run_by ds Ψ → ds.length = 2 := fun ds Ψ ⟨_, _, _, e, _⟩ => by rw [e]; rfl

def b_run_by (K : PySem.W.Frag) : TS :=
  (tSeq (tAsg (tOp (rIx K) (tVar 0) (tVar 2)) (gTup K 4 (gCons (gName 5) (gCons (gName 6) (gCons (gName 7) (gCons (gName 8) gNil))))))
  (tSeq (tDrop (tBM K "list" rAppend (tVar 3) (tCons (tVar 6) tNil)))
  (tSeq (tAsg (tOp (rAddU K) (tVar 2) (tC (.int 1))) (gName 2))
  (tIfS (tTest (tOp (rEqD K) (tOp (rIx K) (tVar 1) (tVar 6)) (tVar 7))) (tSeq (tAsg (tVar 8) (gName 2))
  (tAsg (tOp (rAddU K) (tVar 4) (tC (.int 1))) (gName 4))) tNext))))

def t_run_by (K : PySem.W.Frag) : TS :=
  (tSeq (tAsg (tC (.int 0)) (gName 2))
  (tSeq (tAsg (tLst tNil) (gName 3))
  (tSeq (tAsg (tC (.int 0)) (gName 4))
  (tSeq (tWhile (tTest (tOp (rEqD K) (tOp (rIx K) (tOp (rIx K) (tVar 0) (tVar 2)) (tC (.int 0))) (tC (.str "look")))) (b_run_by K))
  (tRet (tTup (tCons (tOp (rIx K) (tOp (rIx K) (tVar 0) (tVar 2)) (tC (.int 1))) (tCons (tVar 3) (tCons (tVar 4) tNil)))))))))

theorem w_run_by {K : PySem.W.Frag} : ∀ ds Ψ, P_run_by ds Ψ → WS uS (t_run_by K) () (init n_run_by ds) (fun x _ => Ψ x) (fun _ _ => Ψ .none) := by
  rintro ds Ψ ⟨R, f, ws, rfl, hc, hw, q⟩
  have hl := hc.len
  unfold t_run_by
  repeat walk_at "jo"
  refine ws_whileC (α := Nat × List Int × Int) (fun a => [some (.d (.list (codeD R f))), some (.d (.tuple (ws.map .int))), some (.d (.int a.1)), some (.own (a.2.1.map .int)), some (.d (.int a.2.2)), none, none, none, none])
    (fun a => RunTo R ws a.1 a.2.1 a.2.2) (fun a => R.length + 2 - a.1) (0, [], 0) (RunTo.start R ws) (by repeat constructor) ?_
  rintro ⟨p, l, j⟩ s' hr
  have h1 := hr.le
  have h2 := hr.len
  dsimp only at hr h1 h2 ⊢
  repeat walk_at "j"
  by_cases h : p < R.length
  · have hr2 : R[p]? = some R[p] := List.getElem?_eq_getElem h
    have hok := hc.rows p _ hr2
    generalize R[p] = r at hr2 hok
    obtain ⟨t0, t1⟩ := hok.thing
    refine rd_ixL (codeD_row hr2) ?_
    unfold Row.D
    repeat walk_at "j"
    unfold b_run_by
    repeat walk_at "j"
    refine rd_ixL (codeD_row hr2) ?_
    unfold Row.D
    repeat walk_at "j"
    refine ⟨by rw [List.length_map]; omega, ?_⟩
    repeat walk_at "j"
    refine rd_ixT (hw.at_ t0 t1).1 ?_
    have ht := hr.turn hc hr2
    obtain ⟨g1, g2⟩ := Row.next_gt (ws := ws) hok
    have g3 := g2 h
    repeat walk_at "j"
    refine ifD (fun hj => ?_) (fun hj => ?_)
    · repeat walk_at "j"
      have e1 : ((r.next ws p : Nat) : Int) = r.to := by unfold Row.next; rw [if_pos hj]; have := hok.to; omega
      have e2 : r.leap ws = 1 := if_pos hj
      refine ⟨(r.next ws p, l ++ [r.thing], j + r.leap ws), ht, by show R.length + 2 - r.next ws p < R.length + 2 - p; omega, ?_⟩
      dsimp only
      rw [e1, e2, List.map_append]
      repeat constructor
    · repeat walk_at "j"
      have e1 : ((r.next ws p : Nat) : Int) = (p : Int) + 1 := by unfold Row.next; rw [if_neg hj]; omega
      have e2 : r.leap ws = 0 := if_neg hj
      refine ⟨(r.next ws p, l ++ [r.thing], j + r.leap ws), ht, by show R.length + 2 - r.next ws p < R.length + 2 - p; omega, ?_⟩
      dsimp only
      rw [e1, e2, List.map_append, Int.add_zero]
      repeat constructor
  · obtain ⟨d1, d2⟩ := hr.done (by omega)
    refine rd_ixL (codeD_end d2) ?_
    unfold endD
    repeat walk_at "j"
    refine rd_ixL (codeD_end d2) ?_
    unfold endD
    repeat walk_at "j"
    rw [d1] at q
    exact q

theorem ok_run_by {P : Program} {w : World} {K : PySem.W.Frag} {mg : Str → Option Value} {base : Heap} {f : Addr} {fd : FuncData}  (F : Fun K "run_by" "run_by" s_run_by f fd) (hb : Blt mg)   : FnOk P w K mg base CX0 1 f fd q_run_by (spD P_run_by) := by
  refine fnD F sc_run_by len_run_by (t := t_run_by K) (fun cdv A outer s H E hr => ?_) (w_run_by )
  have hu64 := hr.units
  have hu := hu_of hr
  exact (pss_cons (ps_set (i := 2) sc_run_by.nd rfl (Or.inl rfl) pe_int)
    (pss_cons (ps_set (i := 3) sc_run_by.nd rfl (Or.inl rfl) (pe_lst pa_nil))
    (pss_cons (ps_set (i := 4) sc_run_by.nd rfl (Or.inl rfl) pe_int)
    (pss_cons (ps_while PassesOwn.never (pt_cmpR (op_eqD hu64) (pe_ix ix_seq (pe_ix ix_seq (pv 0) (pv 2) (fun _ _ => rfl)) pe_int (fun _ _ => rfl)) pe_str (nomark _)) (pss_cons (ps_asg (pe_ix ix_seq (pv 0) (pv 2) (fun _ _ => rfl)) (pg_tup rfl (pgs_cons (pg_name (i := 5) sc_run_by.nd rfl (Or.inl rfl)) (pgs_cons (pg_name (i := 6) sc_run_by.nd rfl (Or.inl rfl)) (pgs_cons (pg_name (i := 7) sc_run_by.nd rfl (Or.inl rfl)) (pgs_cons (pg_name (i := 8) sc_run_by.nd rfl (Or.inl rfl)) pgs_nil))))))
    (pss_cons (ps_expr (pe_bm PySem.F.plainAttrs_list PySem.F.slot_list_append PySem.F.type_list_append mt_append (pv 3) (pa_cons (pv 6) pa_nil)))
    (pss_cons (ps_set (i := 2) sc_run_by.nd rfl (Or.inl rfl) (pe_op op_addU (pv 2) pe_int))
    (pss_one (ps_if (pt_cmpR (op_eqD hu64) (pe_ix ix_seq (pv 1) (pv 6) (fun _ _ => rfl)) (pv 7) (nomark _)) (pss_cons (ps_set (i := 2) sc_run_by.nd rfl (Or.inl rfl) (pv 8))
    (pss_one (ps_set (i := 4) sc_run_by.nd rfl (Or.inl rfl) (pe_op op_addU (pv 4) pe_int)))) pss_nil))))))
    (pss_one (ps_ret (pe_tup (pa_cons (pe_ix ix_seq (pe_ix ix_seq (pv 0) (pv 2) (fun _ _ => rfl)) pe_int (fun _ _ => rfl)) (pa_cons (pv 3) (pa_cons (pv 4) pa_nil))))))))))

/-! ### need_chances -/
abbrev s_need_chances : Stmt := top 31
abbrev n_need_chances : List Str := ["chances", "chance"]
abbrev q_need_chances : List Str := ["chances"]
theorem sc_need_chances : FnScope n_need_chances q_need_chances (defScope s_need_chances) := ⟨rfl, rfl, rfl, by decide +kernel, rfl, by decide +kernel, by decide +kernel⟩

def P_need_chances : Pre := fun ds Ψ => ∃ cs : List Int, ds = [.tuple (cs.map .int)] ∧ Cs cs ∧ Ψ .none
theorem len_need_chances : ∀ ds Ψ, P_need_chances ds Ψ → ds.length = 1 := fun ds Ψ ⟨_, e, _⟩ => by rw [e]; rfl

def t_need_chances (K : PySem.W.Frag) : TS :=
  (tIfS (tOr (tTest (tOp (rNeD K) (tCB (rLenU K) (tCons (tVar 0) tNil)) (tC (.int 8)))) (tTest (tOp (rNeD K) (tLc (iSeq K (tVar 0)) (gName 1) (tNot (tTest (tChain rLeI rLeI (tC (.int 0)) (tVar 1) (tC (.int 100))))) (tVar 1) [1]) (tLst tNil)))) tNever tNext)

theorem w_need_chances {K : PySem.W.Frag} : ∀ ds Ψ, P_need_chances ds Ψ → WS uS (t_need_chances K) () (init n_need_chances ds) (fun x _ => Ψ x) (fun _ _ => Ψ .none) := by
  rintro ds Ψ ⟨cs, rfl, hc, q⟩
  unfold t_need_chances
  repeat walk_at "j"
  refine ifND (fun h => absurd (by rw [List.length_map, hc.len]; rfl) h) (fun _ => ?_)
  repeat walk_at "j"
  refine wp_lcF_tup (gin_name (by decide)) ?_
  repeat walk_at "j"
  refine ⟨by rw [List.length_map, hc.len]; decide, fun _ => false, id, fun d hd => ?_, ?_⟩
  · obtain ⟨i, hi, rfl⟩ := List.mem_map.mp hd
    have hb := hc.up i hi
    unfold LcF
    repeat walk_at "j"
    refine ifD (fun _ => ?_) (fun h => absurd hb.1 h)
    repeat walk_at "j"
    refine ⟨?_, rfl, fun z => ?_⟩
    · rw [decide_eq_true hb.2]; rfl
    · rw [decide_eq_true hb.2] at z; cases z
  · have e : ((cs.map PyData.int).filter fun _ => false).map id = [] := by simp
    rw [e]
    repeat walk_at "j"
    refine rd_ne (by decide +kernel) (by decide +kernel) ?_
    repeat walk_at "j"
    exact q

theorem ok_need_chances {P : Program} {w : World} {K : PySem.W.Frag} {mg : Str → Option Value} {base : Heap} {f : Addr} {fd : FuncData}  (F : Fun K "need_chances" "need_chances" s_need_chances f fd) (hb : Blt mg) (hc_THINGS : ∃ t, mg "THINGS" = some (.int 8 t)) (hc_HUNDRED : ∃ t, mg "HUNDRED" = some (.int 100 t))  : FnOk P w K mg base CX0 1 f fd q_need_chances (spD P_need_chances) := by
  refine fnD F sc_need_chances len_need_chances (t := t_need_chances K) (fun cdv A outer s H E hr => ?_) (w_need_chances )
  have hu64 := hr.units
  have hu := hu_of hr
  exact (pss_one (ps_if (PW.pt (pw_or (pt_cmpR (op_neD hu64) (pe_callB call_lenU (by rfl) hb.len (by decide +kernel) (pa_cons (pv 0) pa_nil)) (pe_globI rfl hc_THINGS) (nomark _)) (pw_or1 (pt_cmpR (op_neD hu64) (pe_lc (own := [("chance", 1)]) (by rfl) sc_need_chances.nd (pi_seq (pv 0)) (blkOk_by (own := [("chance", 1)]) (N := n_need_chances) (sc := defScope s_need_chances) (by decide +kernel)) (fun _ _ _ _ _ => (pg_name (i := 1) sc_need_chances.nd rfl (Or.inl rfl))) (fun _ _ _ _ _ => (pts_one (pt_not (pt_chain op_leU op_leU pe_int (pv 1) (pe_globI rfl hc_HUNDRED))))) (fun _ _ _ _ _ => (pv 1))) (pe_lst pa_nil) (nomark _))))) (pss_one ps_never) pss_nil))

/-! ### weights_of -/
abbrev s_weights_of : Stmt := top 32
abbrev n_weights_of : List Str := ["chances", "found", "worths", "times", "thing"]
abbrev q_weights_of : List Str := ["chances"]
theorem sc_weights_of : FnScope n_weights_of q_weights_of (defScope s_weights_of) := ⟨rfl, rfl, rfl, by decide +kernel, rfl, by decide +kernel, by decide +kernel⟩

def P_weights_of : Pre := fun ds Ψ => ∃ cs : List Int, ds = [.tuple (cs.map .int)] ∧ Cs cs ∧ Ψ (.list ((wts cs).map wtD))
theorem len_weights_of : ∀ ds Ψ, P_weights_of ds Ψ → ds.length = 1 := fun ds Ψ ⟨_, e, _⟩ => by rw [e]; rfl
def wtsTo (cs : List Int) (i : Nat) : List (List Int × Int) := ((List.range i).map (wt cs)).filter fun p => decide (0 < p.2)
theorem wtsTo_len (cs : List Int) (i : Nat) : (wtsTo cs i).length ≤ i := Nat.le_trans (List.length_filter_le _ _) (by simp)
theorem wtsTo_succ (cs : List Int) (i : Nat) : wtsTo cs (i + 1) = if 0 < times cs (wsOf (i : Int)) then wtsTo cs i ++ [wt cs i] else wtsTo cs i := by
  unfold wtsTo
  rw [List.range_succ, List.map_append, List.filter_append]
  by_cases h : 0 < times cs (wsOf (i : Int))
  · rw [if_pos h]
    congr 1
    show List.filter _ [wt cs i] = _
    rw [List.filter_cons, if_pos (by exact decide_eq_true h)]
    rfl
  · rw [if_neg h]
    show _ ++ List.filter _ [wt cs i] = _
    rw [List.filter_cons, if_neg (by show ¬ decide (0 < times cs (wsOf (i : Int))) = true; rw [decide_eq_true_eq]; exact h)]
    exact List.append_nil _

def b_weights_of (K : PySem.W.Frag) : TS :=
  (tSeq (tAsg (tC (.int 1)) (gName 3))
  (tSeq (tFor (iRng1 (tCons (tC (.int 8)) tNil)) (gName 4) (tAsg (tOp (rMulU K) (tVar 3) (tIf (tTest (tOp (rEqD K) (tOp (rIx K) (tVar 2) (tVar 4)) (tC (.int 1)))) (tOp (rIx K) (tVar 0) (tVar 4)) (tOp rSubI (tC (.int 100)) (tOp (rIx K) (tVar 0) (tVar 4))))) (gName 3)))
  (tIfS (tTest (tOp rGtI (tVar 3) (tC (.int 0)))) (tDrop (tBM K "list" rAppend (tVar 1) (tCons (tTup (tCons (tVar 2) (tCons (tVar 3) tNil))) tNil))) tNext)))

def t_weights_of (K : PySem.W.Frag) : TS :=
  (tSeq (tAsg (tLst tNil) (gName 1))
  (tSeq (tFor (iSeq K (tCall (spD P_all_worths) [] E0 tNil)) (gName 2) (b_weights_of K))
  (tRet (tVar 1))))

theorem w_weights_of {K : PySem.W.Frag} : ∀ ds Ψ, P_weights_of ds Ψ → WS uS (t_weights_of K) () (init n_weights_of ds) (fun x _ => Ψ x) (fun _ _ => Ψ .none) := by
  rintro ds Ψ ⟨cs, rfl, hc, q⟩
  unfold t_weights_of
  repeat walk_at "jo"
  refine ws_for_listC (fun i => [some (.d (.tuple (cs.map .int))), some (.own ((wtsTo cs i).map wtD)), none, none, none]) ?_
  repeat walk_at "j"
  refine ⟨rfl, ?_⟩
  repeat walk_at "j"
  refine ⟨by repeat constructor, fun i d s' hi => ?_, fun s' => ?_⟩
  · obtain ⟨i0, rfl⟩ := AW_get hi
    have hw := wsOf_ws (i : Int)
    unfold b_weights_of
    repeat walk_at "j"
    refine ws_for_rangeC (fun k => [some (.d (.tuple (cs.map .int))), some (.own ((wtsTo cs i).map wtD)), some (.d (wD (wsOf i))), some (.d (.int (timesTo cs (wsOf i) k))), none]) ?_
    repeat walk_at "j"
    refine ⟨by decide, by decide, by repeat constructor, fun k s' hk => ?_, fun s' => ?_⟩
    · have hk : k < 8 := by omega
      have a1 := at_getI (l := wsOf (i : Int)) (i := k) (by rw [hw.len]; exact hk)
      have a2 := at_getI (l := cs) (i := k) (by rw [hc.len]; exact hk)
      have hf := fac_le (ws := wsOf (i : Int)) hc hk
      unfold wD
      repeat walk_at "j"
      refine rd_ixT a1.1 ?_
      repeat walk_at "j"
      refine ifD (fun h => ?_) (fun h => ?_)
      · repeat walk_at "j"
        refine rd_ixT a2.1 ?_
        have e : fac cs (wsOf (i : Int)) k = getI cs k := by unfold fac; rw [if_pos h]
        rw [← e]
        refine rd_mulI (.inr ⟨by omega, by omega⟩) ?_
        repeat walk_at "j"
        repeat constructor
      · repeat walk_at "j"
        refine rd_ixT a2.1 ?_
        repeat walk_at "j"
        have e : fac cs (wsOf (i : Int)) k = 100 - getI cs k := by unfold fac; rw [if_neg h]
        rw [← e]
        refine rd_mulI (.inr ⟨by omega, by omega⟩) ?_
        repeat walk_at "j"
        repeat constructor
    · have hl := wtsTo_len cs i
      rw [wtsTo_succ]
      show WS uS _ s' [some (.d (.tuple (cs.map .int))), some (.own ((wtsTo cs i).map wtD)), some (.d (wD (wsOf i))), some (.d (.int (times cs (wsOf i)))), none] _ _
      repeat walk_at "j"
      refine ifD (fun h => ?_) (fun h => ?_)
      · rw [if_pos h, List.map_append]
        repeat walk_at "j"
        refine ⟨by rw [List.length_map]; omega, ?_⟩
        repeat constructor
      · rw [if_neg h]
        repeat walk_at "j"
        repeat constructor
  · rw [show (AW.map wD).length = 256 from by simp [AW]]
    repeat walk_at "j"
    exact q

theorem ok_weights_of {P : Program} {w : World} {K : PySem.W.Frag} {mg : Str → Option Value} {base : Heap} {f : Addr} {fd : FuncData}  (F : Fun K "weights_of" "weights_of" s_weights_of f fd) (hb : Blt mg) (hc_THINGS : ∃ t, mg "THINGS" = some (.int 8 t)) (hc_HUNDRED : ∃ t, mg "HUNDRED" = some (.int 100 t)) (c_all_worths : Cal P w K mg base 1 "all_worths" q_all_worths (spD P_all_worths))  : FnOk P w K mg base CX0 2 f fd q_weights_of (spD P_weights_of) := by
  refine fnD F sc_weights_of len_weights_of (t := t_weights_of K) (fun cdv A outer s H E hr => ?_) (w_weights_of )
  have hu64 := hr.units
  have hu := hu_of hr
  exact (pss_cons (ps_set (i := 1) sc_weights_of.nd rfl (Or.inl rfl) (pe_lst pa_nil))
    (pss_cons (ps_for PassesOwn.never rfl (pi_seq (pe_callC0 c_all_worths (hr.mono (by omega)) rfl)) (pg_name (i := 2) sc_weights_of.nd rfl (Or.inl rfl)) (pss_cons (ps_set (i := 3) sc_weights_of.nd rfl (Or.inl rfl) pe_int)
    (pss_cons (ps_for PassesOwn.never rfl (pi_range1 (by rfl) hb.range (pa_cons (pe_globI rfl hc_THINGS) pa_nil)) (pg_name (i := 4) sc_weights_of.nd rfl (Or.inl rfl)) (pss_one (ps_set (i := 3) sc_weights_of.nd rfl (Or.inl rfl) (pe_op op_mulU (pv 3) (pe_ifExp (pt_cmpR (op_eqD hu64) (pe_ix ix_seq (pv 2) (pv 4) (fun _ _ => rfl)) pe_int (nomark _)) (pe_ix ix_seq (pv 0) (pv 4) (fun _ _ => rfl)) (pe_op op_subU (pe_globI rfl hc_HUNDRED) (pe_ix ix_seq (pv 0) (pv 4) (fun _ _ => rfl))))))))
    (pss_one (ps_if (pt_cmpR op_gtU (pv 3) pe_int (nomark _)) (pss_one (ps_expr (pe_bm PySem.F.plainAttrs_list PySem.F.slot_list_append PySem.F.type_list_append mt_append (pv 1) (pa_cons (pe_tup (pa_cons (pv 2) (pa_cons (pv 3) pa_nil))) pa_nil)))) pss_nil)))))
    (pss_one (ps_ret (pv 1)))))

/-! ### looks_by -/
abbrev s_looks_by : Stmt := top 33
abbrev n_looks_by : List Str := ["part", "weights", "worths", "times"]
abbrev q_looks_by : List Str := ["part", "weights"]
theorem sc_looks_by : FnScope n_looks_by q_looks_by (defScope s_looks_by) := ⟨rfl, rfl, rfl, by decide +kernel, rfl, by decide +kernel, by decide +kernel⟩

def P_looks_by : Pre := fun ds Ψ => ∃ (c : Cn) (cs : List Int), ds = [c.D, .list ((wts cs).map wtD)] ∧ c.ok ∧ c.deep ≤ 10 ∧ c.looks ≤ 12 ∧ Ψ (.int (looksN c cs))
theorem len_looks_by : ∀ ds Ψ, P_looks_by ds Ψ → ds.length = 2 := fun ds Ψ ⟨_, _, e, _⟩ => by rw [e]; rfl

def t_looks_by (K : PySem.W.Frag) : TS :=
  (tRet (tCB (rSum K) (tCons (tLc (iSeq K (tVar 1)) (gTup K 2 (gCons (gName 2) (gCons (gName 3) gNil))) tYes (tOp (rMulU K) (tVar 3) (tCB (rLenU K) (tCons (tOp (rIx K) (tCall (spD P_told_by) [] E0 (tCons (tVar 0) (tCons (tVar 2) tNil))) (tC (.int 1))) tNil))) [2, 3]) tNil)))

theorem w_looks_by {K : PySem.W.Frag} : ∀ ds Ψ, P_looks_by ds Ψ → WS uS (t_looks_by K) () (init n_looks_by ds) (fun x _ => Ψ x) (fun _ _ => Ψ .none) := by
  rintro ds Ψ ⟨c, cs, rfl, ok, hd, hl, q⟩
  have hle := wts_len cs
  unfold t_looks_by
  repeat walk_at "j"
  refine wp_lcM_list (gin_tup2 (by decide) (by decide)) ?_
  repeat walk_at "j"
  refine ⟨by rw [List.length_map]; omega, fun d => .int ((unWt d).2 * looksF c (unWt d).1), fun d hd => ?_, ?_⟩
  · obtain ⟨p, hp, rfl⟩ := List.mem_map.mp hd
    have hw := wts_ws hp
    have hs := c.seen_len p.1
    unfold wtD
    repeat walk_at "j"
    refine ⟨rfl, ?_⟩
    repeat walk_at "j"
    refine ⟨c, p.1, rfl, ok, hw, by omega, by omega, ?_⟩
    repeat walk_at "j"
    rw [List.length_map]
    refine rd_mulI (.inr ⟨by omega, by omega⟩) ?_
    refine ⟨?_, rfl⟩
    show _ = PyData.int ((unWt (wtD p)).2 * looksF c (unWt (wtD p)).1)
    rw [unWt_D]
    rfl
  · rw [map_wt _ fun p => p.2 * looksF c p.1]
    repeat walk_at "j"
    refine rc_sum rfl ?_
    exact q

theorem ok_looks_by {P : Program} {w : World} {K : PySem.W.Frag} {mg : Str → Option Value} {base : Heap} {f : Addr} {fd : FuncData}  (F : Fun K "looks_by" "looks_by" s_looks_by f fd) (hb : Blt mg) (c_told_by : Cal P w K mg base 13 "told_by" q_told_by (spD P_told_by))  : FnOk P w K mg base CX0 14 f fd q_looks_by (spD P_looks_by) := by
  refine fnD F sc_looks_by len_looks_by (t := t_looks_by K) (fun cdv A outer s H E hr => ?_) (w_looks_by )
  have hu64 := hr.units
  have hu := hu_of hr
  exact (pss_one (ps_ret (pe_callB (cr_sum rfl) (by rfl) hb.sum (by decide +kernel) (pa_cons (pe_lc (own := [("worths", 2), ("times", 3)]) (by rfl) sc_looks_by.nd (pi_seq (pv 1)) (blkOk_by (own := [("worths", 2), ("times", 3)]) (N := n_looks_by) (sc := defScope s_looks_by) (by decide +kernel)) (fun _ _ _ _ _ => (pg_tup rfl (pgs_cons (pg_name (i := 2) sc_looks_by.nd rfl (Or.inl rfl)) (pgs_cons (pg_name (i := 3) sc_looks_by.nd rfl (Or.inl rfl)) pgs_nil)))) (fun _ _ _ _ _ => pts_nil) (fun _ _ _ _ _ => (pe_op op_mulU (pv 3) (pe_callB call_lenU (by rfl) hb.len (by decide +kernel) (pa_cons (pe_ix ix_seq (pe_callC c_told_by (hr.mono (by omega)) rfl (pa_cons (pv 0) (pa_cons (pv 2) pa_nil))) pe_int (fun _ _ => rfl)) pa_nil))))) pa_nil))))

/-! ### jumps_by -/
abbrev s_jumps_by : Stmt := top 34
abbrev n_jumps_by : List Str := ["part", "first", "weights", "rows", "worths", "times"]
abbrev q_jumps_by : List Str := ["part", "first", "weights"]
theorem sc_jumps_by : FnScope n_jumps_by q_jumps_by (defScope s_jumps_by) := ⟨rfl, rfl, rfl, by decide +kernel, rfl, by decide +kernel, by decide +kernel⟩

def P_jumps_by : Pre := fun ds Ψ => ∃ (c : Cn) (f : Int) (cs : List Int), ds = [c.D, .int f, .list ((wts cs).map wtD)] ∧ c.ok ∧ c.deep ≤ 10 ∧ c.looks ≤ 12 ∧ (f = 0 ∨ f = 1) ∧ Ψ (.int (jumpsN c f cs))
theorem len_jumps_by : ∀ ds Ψ, P_jumps_by ds Ψ → ds.length = 3 := fun ds Ψ ⟨_, _, _, e, _⟩ => by rw [e]; rfl
theorem jumpsF_le {c : Cn} {f : Int} {ws : List Int} (hw : Ws ws) (ok : c.ok) (hf : f = 0 ∨ f = 1) (hl : c.looks ≤ 12) : 0 ≤ jumpsF c f ws ∧ jumpsF c f ws ≤ 12 := by
  obtain ⟨r1, r2⟩ := Cn.run_code (f := f) hw ok hf
  have hj := runF_leaps (c.rows0 f) ws (c.rows0 f).length 0
  have hsl := c.seen_len ws
  change 0 ≤ (runOf (c.rows0 f) ws).2.2 ∧ (runOf (c.rows0 f) ws).2.2 ≤ ((runOf (c.rows0 f) ws).2.1.length : Int) at hj
  rw [r2] at hj
  unfold jumpsF
  omega

def t_jumps_by (K : PySem.W.Frag) : TS :=
  (tSeq (tAsg (tCall (spD P_code_of) [] E0 (tCons (tVar 0) (tCons (tVar 1) tNil))) (gName 3))
  (tRet (tCB (rSum K) (tCons (tLc (iSeq K (tVar 2)) (gTup K 2 (gCons (gName 4) (gCons (gName 5) gNil))) tYes (tOp (rMulU K) (tVar 5) (tOp (rIx K) (tCall (spD P_run_by) [] E0 (tCons (tVar 3) (tCons (tVar 4) tNil))) (tC (.int 2)))) [4, 5]) tNil))))

theorem w_jumps_by {K : PySem.W.Frag} : ∀ ds Ψ, P_jumps_by ds Ψ → WS uS (t_jumps_by K) () (init n_jumps_by ds) (fun x _ => Ψ x) (fun _ _ => Ψ .none) := by
  rintro ds Ψ ⟨c, f, cs, rfl, ok, hd, hl, hf, q⟩
  have hle := wts_len cs
  have hcode := Cn.isCode ok (by omega) hf
  unfold t_jumps_by
  repeat walk_at "j"
  refine ⟨c, f, rfl, by omega, by omega, ?_⟩
  repeat walk_at "j"
  rw [c.code_eq]
  refine wp_lcM_list (gin_tup2 (by decide) (by decide)) ?_
  repeat walk_at "j"
  refine ⟨by rw [List.length_map]; omega, fun d => .int ((unWt d).2 * jumpsF c f (unWt d).1), fun d hd => ?_, ?_⟩
  · obtain ⟨p, hp, rfl⟩ := List.mem_map.mp hd
    have hw := wts_ws hp
    have hj := jumpsF_le hw ok hf hl
    unfold wtD
    repeat walk_at "j"
    refine ⟨rfl, ?_⟩
    repeat walk_at "j"
    refine ⟨c.rows0 f, f, p.1, rfl, hcode, hw, ?_⟩
    repeat walk_at "j"
    unfold jumpsF at hj
    refine rd_mulI (.inr ⟨by omega, by omega⟩) ?_
    refine ⟨?_, rfl⟩
    show _ = PyData.int ((unWt (wtD p)).2 * jumpsF c f (unWt (wtD p)).1)
    rw [unWt_D]
    rfl
  · rw [map_wt _ fun p => p.2 * jumpsF c f p.1]
    repeat walk_at "j"
    refine rc_sum rfl ?_
    exact q

theorem ok_jumps_by {P : Program} {w : World} {K : PySem.W.Frag} {mg : Str → Option Value} {base : Heap} {f : Addr} {fd : FuncData}  (F : Fun K "jumps_by" "jumps_by" s_jumps_by f fd) (hb : Blt mg) (c_code_of : Cal P w K mg base 61 "code_of" q_code_of (spD P_code_of)) (c_run_by : Cal P w K mg base 1 "run_by" q_run_by (spD P_run_by))  : FnOk P w K mg base CX0 62 f fd q_jumps_by (spD P_jumps_by) := by
  refine fnD F sc_jumps_by len_jumps_by (t := t_jumps_by K) (fun cdv A outer s H E hr => ?_) (w_jumps_by )
  have hu64 := hr.units
  have hu := hu_of hr
  exact (pss_cons (ps_set (i := 3) sc_jumps_by.nd rfl (Or.inr rfl) (pe_callC c_code_of (hr.mono (by omega)) rfl (pa_cons (pv 0) (pa_cons (pv 1) pa_nil))))
    (pss_one (ps_ret (pe_callB (cr_sum rfl) (by rfl) hb.sum (by decide +kernel) (pa_cons (pe_lc (own := [("worths", 4), ("times", 5)]) (by rfl) sc_jumps_by.nd (pi_seq (pv 2)) (blkOk_by (own := [("worths", 4), ("times", 5)]) (N := n_jumps_by) (sc := defScope s_jumps_by) (by decide +kernel)) (fun _ _ _ _ _ => (pg_tup rfl (pgs_cons (pg_name (i := 4) sc_jumps_by.nd rfl (Or.inl rfl)) (pgs_cons (pg_name (i := 5) sc_jumps_by.nd rfl (Or.inl rfl)) pgs_nil)))) (fun _ _ _ _ _ => pts_nil) (fun _ _ _ _ _ => (pe_op op_mulU (pv 5) (pe_ix ix_seq (pe_callC c_run_by (hr.mono (by omega)) rfl (pa_cons (pv 3) (pa_cons (pv 4) pa_nil))) pe_int (fun _ _ => rfl))))) pa_nil)))))

/-! ### looks -/
abbrev s_looks : Stmt := top 35
abbrev n_looks : List Str := ["part", "chances"]
abbrev q_looks : List Str := ["part", "chances"]
theorem sc_looks : FnScope n_looks q_looks (defScope s_looks) := ⟨rfl, rfl, rfl, by decide +kernel, rfl, by decide +kernel, by decide +kernel⟩

def P_looks : Pre := fun ds Ψ => ∃ (c : Cn) (cs : List Int), ds = [c.D, .tuple (cs.map .int)] ∧ c.ok ∧ c.deep ≤ 10 ∧ c.looks ≤ 12 ∧ Cs cs ∧ Ψ (.int (looksN c cs))
theorem len_looks : ∀ ds Ψ, P_looks ds Ψ → ds.length = 2 := fun ds Ψ ⟨_, _, e, _⟩ => by rw [e]; rfl

def t_looks (K : PySem.W.Frag) : TS :=
  (tSeq (tDrop (tCall (spD P_need_condition) [] E0 (tCons (tVar 0) tNil)))
  (tSeq (tDrop (tCall (spD P_need_chances) [] E0 (tCons (tVar 1) tNil)))
  (tRet (tCall (spD P_looks_by) [] E0 (tCons (tVar 0) (tCons (tCall (spD P_weights_of) [] E0 (tCons (tVar 1) tNil)) tNil))))))

theorem w_looks {K : PySem.W.Frag} : ∀ ds Ψ, P_looks ds Ψ → WS uS (t_looks K) () (init n_looks ds) (fun x _ => Ψ x) (fun _ _ => Ψ .none) := by
  rintro ds Ψ ⟨c, cs, rfl, ok, hd, hl, hc, q⟩
  unfold t_looks
  repeat walk_at "j"
  refine ⟨c, rfl, ok, hd, hl, ?_⟩
  repeat walk_at "j"
  refine ⟨cs, rfl, hc, ?_⟩
  repeat walk_at "j"
  refine ⟨cs, rfl, hc, ?_⟩
  repeat walk_at "j"
  exact ⟨c, cs, rfl, ok, hd, hl, q⟩

theorem ok_looks {P : Program} {w : World} {K : PySem.W.Frag} {mg : Str → Option Value} {base : Heap} {f : Addr} {fd : FuncData}  (F : Fun K "looks" "looks" s_looks f fd) (hb : Blt mg) (c_need_condition : Cal P w K mg base 31 "need_condition" q_need_condition (spD P_need_condition)) (c_need_chances : Cal P w K mg base 1 "need_chances" q_need_chances (spD P_need_chances)) (c_weights_of : Cal P w K mg base 2 "weights_of" q_weights_of (spD P_weights_of)) (c_looks_by : Cal P w K mg base 14 "looks_by" q_looks_by (spD P_looks_by))  : FnOk P w K mg base CX0 32 f fd q_looks (spD P_looks) := by
  refine fnD F sc_looks len_looks (t := t_looks K) (fun cdv A outer s H E hr => ?_) (w_looks )
  have hu64 := hr.units
  have hu := hu_of hr
  exact (pss_cons (ps_expr (pe_callC c_need_condition (hr.mono (by omega)) rfl (pa_cons (pv 0) pa_nil)))
    (pss_cons (ps_expr (pe_callC c_need_chances (hr.mono (by omega)) rfl (pa_cons (pv 1) pa_nil)))
    (pss_one (ps_ret (pe_callC c_looks_by (hr.mono (by omega)) rfl (pa_cons (pv 0) (pa_cons (pe_callC c_weights_of (hr.mono (by omega)) rfl (pa_cons (pv 1) pa_nil)) pa_nil)))))))

/-! ### jumps -/
abbrev s_jumps : Stmt := top 36
abbrev n_jumps : List Str := ["part", "first", "chances"]
abbrev q_jumps : List Str := ["part", "first", "chances"]
theorem sc_jumps : FnScope n_jumps q_jumps (defScope s_jumps) := ⟨rfl, rfl, rfl, by decide +kernel, rfl, by decide +kernel, by decide +kernel⟩

def P_jumps : Pre := fun ds Ψ => ∃ (c : Cn) (f : Int) (cs : List Int), ds = [c.D, .int f, .tuple (cs.map .int)] ∧ c.ok ∧ c.deep ≤ 10 ∧ c.looks ≤ 12 ∧ (f = 0 ∨ f = 1) ∧ Cs cs ∧ Ψ (.int (jumpsN c f cs))
theorem len_jumps : ∀ ds Ψ, P_jumps ds Ψ → ds.length = 3 := fun ds Ψ ⟨_, _, _, e, _⟩ => by rw [e]; rfl

def t_jumps (K : PySem.W.Frag) : TS :=
  (tSeq (tDrop (tCall (spD P_need_condition) [] E0 (tCons (tVar 0) tNil)))
  (tSeq (tDrop (tCall (spD P_need_end) [] E0 (tCons (tVar 1) tNil)))
  (tSeq (tDrop (tCall (spD P_need_chances) [] E0 (tCons (tVar 2) tNil)))
  (tRet (tCall (spD P_jumps_by) [] E0 (tCons (tVar 0) (tCons (tVar 1) (tCons (tCall (spD P_weights_of) [] E0 (tCons (tVar 2) tNil)) tNil))))))))

theorem w_jumps {K : PySem.W.Frag} : ∀ ds Ψ, P_jumps ds Ψ → WS uS (t_jumps K) () (init n_jumps ds) (fun x _ => Ψ x) (fun _ _ => Ψ .none) := by
  rintro ds Ψ ⟨c, f, cs, rfl, ok, hd, hl, hf, hc, q⟩
  unfold t_jumps
  repeat walk_at "j"
  refine ⟨c, rfl, ok, hd, hl, ?_⟩
  repeat walk_at "j"
  refine ⟨f, rfl, hf, ?_⟩
  repeat walk_at "j"
  refine ⟨cs, rfl, hc, ?_⟩
  repeat walk_at "j"
  refine ⟨cs, rfl, hc, ?_⟩
  repeat walk_at "j"
  exact ⟨c, f, cs, rfl, ok, hd, hl, hf, q⟩

theorem ok_jumps {P : Program} {w : World} {K : PySem.W.Frag} {mg : Str → Option Value} {base : Heap} {f : Addr} {fd : FuncData}  (F : Fun K "jumps" "jumps" s_jumps f fd) (hb : Blt mg) (c_need_condition : Cal P w K mg base 31 "need_condition" q_need_condition (spD P_need_condition)) (c_need_end : Cal P w K mg base 1 "need_end" q_need_end (spD P_need_end)) (c_need_chances : Cal P w K mg base 1 "need_chances" q_need_chances (spD P_need_chances)) (c_weights_of : Cal P w K mg base 2 "weights_of" q_weights_of (spD P_weights_of)) (c_jumps_by : Cal P w K mg base 62 "jumps_by" q_jumps_by (spD P_jumps_by))  : FnOk P w K mg base CX0 63 f fd q_jumps (spD P_jumps) := by
  refine fnD F sc_jumps len_jumps (t := t_jumps K) (fun cdv A outer s H E hr => ?_) (w_jumps )
  have hu64 := hr.units
  have hu := hu_of hr
  exact (pss_cons (ps_expr (pe_callC c_need_condition (hr.mono (by omega)) rfl (pa_cons (pv 0) pa_nil)))
    (pss_cons (ps_expr (pe_callC c_need_end (hr.mono (by omega)) rfl (pa_cons (pv 1) pa_nil)))
    (pss_cons (ps_expr (pe_callC c_need_chances (hr.mono (by omega)) rfl (pa_cons (pv 2) pa_nil)))
    (pss_one (ps_ret (pe_callC c_jumps_by (hr.mono (by omega)) rfl (pa_cons (pv 0) (pa_cons (pv 1) (pa_cons (pe_callC c_weights_of (hr.mono (by omega)) rfl (pa_cons (pv 2) pa_nil)) pa_nil)))))))))

/-! ### all_turns -/
abbrev s_all_turns : Stmt := top 37
abbrev n_all_turns : List Str := ["many", "found", "turn", "longer", "turns"]
abbrev q_all_turns : List Str := ["many"]
theorem sc_all_turns : FnScope n_all_turns q_all_turns (defScope s_all_turns) := ⟨rfl, rfl, rfl, by decide +kernel, rfl, by decide +kernel, by decide +kernel⟩

def P_all_turns : Pre := fun ds Ψ => ∃ n : Nat, ds = [.int (n : Int)] ∧ n ≤ 11 ∧ Ψ (.list ((allB n).map lD))
theorem len_all_turns : ∀ ds Ψ, P_all_turns ds Ψ → ds.length = 1 := fun ds Ψ ⟨_, e, _⟩ => by rw [e]; rfl

def t_all_turns (K : PySem.W.Frag) : TS :=
  (tSeq (tAsg (tLst (tCons (tLst tNil) tNil)) (gName 1))
  (tSeq (tFor (iRng1 (tCons (tVar 0) tNil)) (gName 2) (tSeq (tAsg (tLst tNil) (gName 3))
  (tSeq (tFor (iSeq K (tVar 1)) (gName 4) (tDrop (tBM K "list" rExtend (tVar 3) (tCons (tLst (tCons (tOp (rAddU K) (tVar 4) (tLst (tCons (tC (.int 0)) tNil))) (tCons (tOp (rAddU K) (tVar 4) (tLst (tCons (tC (.int 1)) tNil))) tNil))) tNil))))
  (tAsg (tVar 3) (gName 1)))))
  (tRet (tVar 1))))

theorem w_all_turns {K : PySem.W.Frag} : ∀ ds Ψ, P_all_turns ds Ψ → WS uS (t_all_turns K) () (init n_all_turns ds) (fun x _ => Ψ x) (fun _ _ => Ψ .none) := by
  rintro ds Ψ ⟨n, rfl, hn, q⟩
  unfold t_all_turns
  repeat walk_at "j"
  refine ws_for_rangeC (fun k => [some (.d (.int (n : Int))), some (.d (.list ((allB k).map lD))), none, none, none]) ?_
  repeat walk_at "j"
  refine ⟨by omega, by omega, by repeat constructor, fun k s' hk => ?_, fun s' => ?_⟩
  · have hlen : (allB k).length ≤ 2048 := by
      rw [allB_len]
      exact Nat.le_trans (Nat.pow_le_pow_right (by decide) (show k ≤ 11 by omega)) (by decide)
    repeat walk_at "jo"
    refine ws_for_listC (fun i => [some (.d (.int (n : Int))), some (.d (.list ((allB k).map lD))), none, some (.own ((((allB k).take i).flatMap fun w => [w ++ [0], w ++ [1]]).map lD)), none]) ?_
    repeat walk_at "j"
    refine ⟨by repeat constructor, fun i d s' hi => ?_, fun s' => ?_⟩
    · rw [List.getElem?_map] at hi
      cases e : (allB k)[i]? with
      | none => rw [e] at hi; cases hi
      | some w =>
        rw [e] at hi
        cases hi
        have hw := allB_item k w (List.mem_of_getElem? e)
        have hi' := (List.getElem?_eq_some_iff.mp e).1
        have hnext : (((allB k).take (i + 1)).flatMap fun w => [w ++ [0], w ++ [1]]).map lD = (((allB k).take i).flatMap fun w => [w ++ [0], w ++ [1]]).map lD ++ [.list (w.map .int ++ [.int 0]), .list (w.map .int ++ [.int 1])] := by
          rw [take_snoc e, List.flatMap_append, List.map_append]
          simp [lD]
        have hol : ((((allB k).take i).flatMap fun w => [w ++ [0], w ++ [1]]).map lD).length ≤ 4096 := by
          have h : ∀ l : List (List Int), (l.flatMap fun w => [w ++ [0], w ++ [1]]).length = l.length * 2 := fun l => by
            induction l with
            | nil => rfl
            | cons a r ih => rw [List.flatMap_cons, List.length_append, ih]; show 2 + _ = (r.length + 1) * 2; omega
          rw [List.length_map, h, List.length_take]
          omega
        rw [hnext]
        generalize (((allB k).take i).flatMap fun w => [w ++ [0], w ++ [1]]).map lD = old at hol ⊢
        unfold lD
        repeat walk_at "j"
        refine rd_addL (by rw [List.length_map, hw]; show k + 1 ≤ 100000; omega) ?_
        repeat walk_at "j"
        refine rd_addL (by rw [List.length_map, hw]; show k + 1 ≤ 100000; omega) ?_
        repeat walk_at "j"
        refine ⟨by show old.length + 2 ≤ 100000; omega, ?_⟩
        repeat constructor
    · dsimp only
      rw [List.length_map, List.take_length]
      repeat walk_at "j"
      show LeE [some (.d (.int (n : Int))), some (.d (.list ((allB (k + 1)).map lD))), none, none, none] _
      repeat constructor
  · have e : ((n : Nat) : Int).toNat = n := by omega
    rw [e]
    repeat walk_at "j"
    exact q

theorem ok_all_turns {P : Program} {w : World} {K : PySem.W.Frag} {mg : Str → Option Value} {base : Heap} {f : Addr} {fd : FuncData}  (F : Fun K "all_turns" "all_turns" s_all_turns f fd) (hb : Blt mg)   : FnOk P w K mg base CX0 1 f fd q_all_turns (spD P_all_turns) := by
  refine fnD F sc_all_turns len_all_turns (t := t_all_turns K) (fun cdv A outer s H E hr => ?_) (w_all_turns )
  have hu64 := hr.units
  have hu := hu_of hr
  exact (pss_cons (ps_set (i := 1) sc_all_turns.nd rfl (Or.inl rfl) (pe_lst (pa_cons (pe_lst pa_nil) pa_nil)))
    (pss_cons (ps_for PassesOwn.never rfl (pi_range1 (by rfl) hb.range (pa_cons (pv 0) pa_nil)) (pg_name (i := 2) sc_all_turns.nd rfl (Or.inl rfl)) (pss_cons (ps_set (i := 3) sc_all_turns.nd rfl (Or.inl rfl) (pe_lst pa_nil))
    (pss_cons (ps_for PassesOwn.never rfl (pi_seq (pv 1)) (pg_name (i := 4) sc_all_turns.nd rfl (Or.inl rfl)) (pss_one (ps_expr (pe_bm PySem.F.plainAttrs_list PySem.F.slot_list_extend PySem.F.type_list_extend mt_extend (pv 3) (pa_cons (pe_lst (pa_cons (pe_op op_addU (pv 4) (pe_lst (pa_cons pe_int pa_nil))) (pa_cons (pe_op op_addU (pv 4) (pe_lst (pa_cons pe_int pa_nil))) pa_nil))) pa_nil)))))
    (pss_one (ps_set (i := 1) sc_all_turns.nd rfl (Or.inl rfl) (pv 3))))))
    (pss_one (ps_ret (pv 1)))))

/-! ### need_few -/
abbrev s_need_few : Stmt := top 38
abbrev n_need_few : List Str := ["part", "chances"]
abbrev q_need_few : List Str := ["part", "chances"]
theorem sc_need_few : FnScope n_need_few q_need_few (defScope s_need_few) := ⟨rfl, rfl, rfl, by decide +kernel, rfl, by decide +kernel, by decide +kernel⟩

def P_need_few : Pre := fun ds Ψ => ∃ (c : Cn) (cs : List Int), ds = [c.D, .tuple (cs.map .int)] ∧ c.ok ∧ c.deep ≤ 10 ∧ c.looks ≤ 12 ∧ c.pairs ≤ 6 ∧ Cs cs ∧ Ψ .none
theorem len_need_few : ∀ ds Ψ, P_need_few ds Ψ → ds.length = 2 := fun ds Ψ ⟨_, _, e, _⟩ => by rw [e]; rfl

def t_need_few (K : PySem.W.Frag) : TS :=
  (tSeq (tDrop (tCall (spD P_need_condition) [] E0 (tCons (tVar 0) tNil)))
  (tSeq (tDrop (tCall (spD P_need_chances) [] E0 (tCons (tVar 1) tNil)))
  (tIfS (tTest (tOp rGtI (tCall (spD (P_pairs_in 30)) [] E0 (tCons (tVar 0) tNil)) (tC (.int 6)))) tNever tNext)))

theorem w_need_few {K : PySem.W.Frag} : ∀ ds Ψ, P_need_few ds Ψ → WS uS (t_need_few K) () (init n_need_few ds) (fun x _ => Ψ x) (fun _ _ => Ψ .none) := by
  rintro ds Ψ ⟨c, cs, rfl, ok, hd, hl, hp, hc, q⟩
  unfold t_need_few
  repeat walk_at "j"
  refine ⟨c, rfl, ok, hd, hl, ?_⟩
  repeat walk_at "j"
  refine ⟨cs, rfl, hc, ?_⟩
  repeat walk_at "j"
  refine ⟨c, rfl, by omega, ?_⟩
  repeat walk_at "j"
  refine ifD (fun h => absurd h (by omega)) (fun _ => ?_)
  repeat walk_at "j"
  exact q

theorem ok_need_few {P : Program} {w : World} {K : PySem.W.Frag} {mg : Str → Option Value} {base : Heap} {f : Addr} {fd : FuncData}  (F : Fun K "need_few" "need_few" s_need_few f fd) (hb : Blt mg) (hc_MOST_PAIRS : ∃ t, mg "MOST_PAIRS" = some (.int 6 t)) (c_need_condition : Cal P w K mg base 31 "need_condition" q_need_condition (spD P_need_condition)) (c_need_chances : Cal P w K mg base 1 "need_chances" q_need_chances (spD P_need_chances)) (c_pairs_in : Cal P w K mg base 30 "pairs_in" q_pairs_in (spD (P_pairs_in 30)))  : FnOk P w K mg base CX0 32 f fd q_need_few (spD P_need_few) := by
  refine fnD F sc_need_few len_need_few (t := t_need_few K) (fun cdv A outer s H E hr => ?_) (w_need_few )
  have hu64 := hr.units
  have hu := hu_of hr
  exact (pss_cons (ps_expr (pe_callC c_need_condition (hr.mono (by omega)) rfl (pa_cons (pv 0) pa_nil)))
    (pss_cons (ps_expr (pe_callC c_need_chances (hr.mono (by omega)) rfl (pa_cons (pv 1) pa_nil)))
    (pss_one (ps_if (pt_cmpR op_gtU (pe_callC c_pairs_in (hr.mono (by omega)) rfl (pa_cons (pv 0) pa_nil)) (pe_globI rfl hc_MOST_PAIRS) (nomark _)) (pss_one ps_never) pss_nil))))

/-! ### fewest_looks -/
abbrev s_fewest_looks : Stmt := top 39
abbrev n_fewest_looks : List Str := ["part", "chances", "weights", "some", "turns"]
abbrev q_fewest_looks : List Str := ["part", "chances"]
theorem sc_fewest_looks : FnScope n_fewest_looks q_fewest_looks (defScope s_fewest_looks) := ⟨rfl, rfl, rfl, by decide +kernel, rfl, by decide +kernel, by decide +kernel⟩

def P_fewest_looks : Pre := fun ds Ψ => ∃ (c : Cn) (cs : List Int), ds = [c.D, .tuple (cs.map .int)] ∧ c.ok ∧ c.deep ≤ 10 ∧ c.looks ≤ 12 ∧ c.pairs ≤ 6 ∧ Cs cs ∧ Ψ (leastD (fewL c cs))
theorem len_fewest_looks : ∀ ds Ψ, P_fewest_looks ds Ψ → ds.length = 2 := fun ds Ψ ⟨_, _, e, _⟩ => by rw [e]; rfl

def t_fewest_looks (K : PySem.W.Frag) : TS :=
  (tSeq (tDrop (tCall (spD P_need_few) [] E0 (tCons (tVar 0) (tCons (tVar 1) tNil))))
  (tSeq (tAsg (tCall (spD P_weights_of) [] E0 (tCons (tVar 1) tNil)) (gName 2))
  (tSeq (tAsg (tLc (iSeq K (tCall (spD P_all_turns) [] E0 (tCons (tCall (spD (P_pairs_in 30)) [] E0 (tCons (tVar 0) tNil)) tNil))) (gName 4) tYes (tTup (tCons (tCall (spD P_looks_by) [] E0 (tCons (tOp (rIx K) (tCall (spD (P_turned_by 30)) [] E0 (tCons (tVar 0) (tCons (tVar 4) tNil))) (tC (.int 0))) (tCons (tVar 2) tNil))) (tCons (tVar 4) tNil))) [4]) (gName 3))
  (tRet (tCB (rMinD K) (tCons (tVar 3) tNil))))))

theorem w_fewest_looks {K : PySem.W.Frag} : ∀ ds Ψ, P_fewest_looks ds Ψ → WS uS (t_fewest_looks K) () (init n_fewest_looks ds) (fun x _ => Ψ x) (fun _ _ => Ψ .none) := by
  rintro ds Ψ ⟨c, cs, rfl, ok, hd, hl, hp, hc, q⟩
  have hlen : (allB c.pairs).length ≤ 64 := by
    rw [allB_len]
    exact Nat.le_trans (Nat.pow_le_pow_right (by decide) (show c.pairs ≤ 6 from hp)) (by decide)
  unfold t_fewest_looks
  repeat walk_at "j"
  refine ⟨c, cs, rfl, ok, hd, hl, hp, hc, ?_⟩
  repeat walk_at "j"
  refine ⟨cs, rfl, hc, ?_⟩
  repeat walk_at "j"
  refine wp_lcM_list (gin_name (by decide)) ?_
  repeat walk_at "j"
  refine ⟨c, rfl, by omega, ?_⟩
  repeat walk_at "j"
  refine ⟨c.pairs, rfl, by omega, ?_⟩
  repeat walk_at "j"
  refine ⟨by rw [List.length_map]; omega, fun d => rowF (looksN (c.turn (unL d)) cs) (unL d) [], fun d hd => ?_, ?_⟩
  · obtain ⟨ts, hts, rfl⟩ := List.mem_map.mp hd
    have hl2 := allB_item _ _ hts
    obtain ⟨h1, h2, h3, h4⟩ := c.turn_all ts
    unfold lD
    repeat walk_at "j"
    refine ⟨rfl, ?_⟩
    repeat walk_at "j"
    refine ⟨c, ts, rfl, by omega, by omega, by omega, ?_⟩
    repeat walk_at "j"
    refine ⟨c.turn ts, cs, rfl, h4 ok, by omega, by omega, ?_⟩
    repeat walk_at "j"
    refine ⟨?_, rfl⟩
    dsimp only
    rw [show unL (.list (ts.map .int)) = ts from unL_D ts]
    rfl
  · rw [fewL_map]
    repeat walk_at "j"
    refine rc_leastD (fewL_rows c cs) ?_
    exact q

theorem ok_fewest_looks {P : Program} {w : World} {K : PySem.W.Frag} {mg : Str → Option Value} {base : Heap} {f : Addr} {fd : FuncData}  (F : Fun K "fewest_looks" "fewest_looks" s_fewest_looks f fd) (hb : Blt mg) (c_need_few : Cal P w K mg base 32 "need_few" q_need_few (spD P_need_few)) (c_weights_of : Cal P w K mg base 2 "weights_of" q_weights_of (spD P_weights_of)) (c_pairs_in : Cal P w K mg base 30 "pairs_in" q_pairs_in (spD (P_pairs_in 30))) (c_all_turns : Cal P w K mg base 1 "all_turns" q_all_turns (spD P_all_turns)) (c_turned_by : Cal P w K mg base 30 "turned_by" q_turned_by (spD (P_turned_by 30))) (c_looks_by : Cal P w K mg base 14 "looks_by" q_looks_by (spD P_looks_by))  : FnOk P w K mg base CX0 33 f fd q_fewest_looks (spD P_fewest_looks) := by
  refine fnD F sc_fewest_looks len_fewest_looks (t := t_fewest_looks K) (fun cdv A outer s H E hr => ?_) (w_fewest_looks )
  have hu64 := hr.units
  have hu := hu_of hr
  exact (pss_cons (ps_expr (pe_callC c_need_few (hr.mono (by omega)) rfl (pa_cons (pv 0) (pa_cons (pv 1) pa_nil))))
    (pss_cons (ps_set (i := 2) sc_fewest_looks.nd rfl (Or.inr rfl) (pe_callC c_weights_of (hr.mono (by omega)) rfl (pa_cons (pv 1) pa_nil)))
    (pss_cons (ps_setLc (i := 3) (own := [("turns", 4)]) (by rfl) sc_fewest_looks.nd rfl rfl (sw_true rfl rfl rfl (by decide +kernel)) (pi_seq (pe_callC c_all_turns (hr.mono (by omega)) rfl (pa_cons (pe_callC c_pairs_in (hr.mono (by omega)) rfl (pa_cons (pv 0) pa_nil)) pa_nil))) (blkOk_by (own := [("turns", 4)]) (N := n_fewest_looks) (sc := defScope s_fewest_looks) (by decide +kernel)) (fun _ _ _ _ _ => (pg_name (i := 4) sc_fewest_looks.nd rfl (Or.inl rfl))) (fun _ _ _ _ _ => pts_nil) (fun _ _ _ _ _ => (pe_tup (pa_cons (pe_callC c_looks_by (hr.mono (by omega)) rfl (pa_cons (pe_ix ix_seq (pe_callC c_turned_by (hr.mono (by omega)) rfl (pa_cons (pv 0) (pa_cons (pv 4) pa_nil))) pe_int (fun _ _ => rfl)) (pa_cons (pv 2) pa_nil))) (pa_cons (pv 4) pa_nil)))))
    (pss_one (ps_ret (pe_callB (cr_minD rfl (hu65_of hr)) (by rfl) hb.min (by decide +kernel) (pa_cons (pv 3) pa_nil)))))))

/-! ### fewest_jumps -/
abbrev s_fewest_jumps : Stmt := top 40
abbrev n_fewest_jumps : List Str := ["part", "chances", "weights", "some", "turns", "first"]
abbrev q_fewest_jumps : List Str := ["part", "chances"]
theorem sc_fewest_jumps : FnScope n_fewest_jumps q_fewest_jumps (defScope s_fewest_jumps) := ⟨rfl, rfl, rfl, by decide +kernel, rfl, by decide +kernel, by decide +kernel⟩

def P_fewest_jumps : Pre := fun ds Ψ => ∃ (c : Cn) (cs : List Int), ds = [c.D, .tuple (cs.map .int)] ∧ c.ok ∧ c.deep ≤ 10 ∧ c.looks ≤ 12 ∧ c.pairs ≤ 6 ∧ Cs cs ∧ Ψ (leastD (fewJ c cs))
theorem len_fewest_jumps : ∀ ds Ψ, P_fewest_jumps ds Ψ → ds.length = 2 := fun ds Ψ ⟨_, _, e, _⟩ => by rw [e]; rfl

def t_fewest_jumps (K : PySem.W.Frag) : TS :=
  (tSeq (tDrop (tCall (spD P_need_few) [] E0 (tCons (tVar 0) (tCons (tVar 1) tNil))))
  (tSeq (tAsg (tCall (spD P_weights_of) [] E0 (tCons (tVar 1) tNil)) (gName 2))
  (tSeq (tAsg (tLst tNil) (gName 3))
  (tSeq (tFor (iSeq K (tCall (spD P_all_turns) [] E0 (tCons (tCall (spD (P_pairs_in 30)) [] E0 (tCons (tVar 0) tNil)) tNil))) (gName 4) (tFor (iRng1 (tCons (tC (.int 2)) tNil)) (gName 5) (tDrop (tBM K "list" rAppend (tVar 3) (tCons (tTup (tCons (tCall (spD P_jumps_by) [] E0 (tCons (tOp (rIx K) (tCall (spD (P_turned_by 30)) [] E0 (tCons (tVar 0) (tCons (tVar 4) tNil))) (tC (.int 0))) (tCons (tVar 5) (tCons (tVar 2) tNil)))) (tCons (tVar 4) (tCons (tVar 5) tNil)))) tNil)))))
  (tRet (tCB (rMinD K) (tCons (tVar 3) tNil)))))))

theorem w_fewest_jumps {K : PySem.W.Frag} : ∀ ds Ψ, P_fewest_jumps ds Ψ → WS uS (t_fewest_jumps K) () (init n_fewest_jumps ds) (fun x _ => Ψ x) (fun _ _ => Ψ .none) := by
  rintro ds Ψ ⟨c, cs, rfl, ok, hd, hl, hp, hc, q⟩
  have hlen : (allB c.pairs).length ≤ 64 := by
    rw [allB_len]
    exact Nat.le_trans (Nat.pow_le_pow_right (by decide) (show c.pairs ≤ 6 from hp)) (by decide)
  unfold t_fewest_jumps
  repeat walk_at "j"
  refine ⟨c, cs, rfl, ok, hd, hl, hp, hc, ?_⟩
  repeat walk_at "j"
  refine ⟨cs, rfl, hc, ?_⟩
  repeat walk_at "jo"
  refine ws_for_listC (fun i => [some (.d c.D), some (.d (.tuple (cs.map .int))), some (.d (.list ((wts cs).map wtD))), some (.own (((allB c.pairs).take i).flatMap (rowJ c cs))), none, none]) ?_
  repeat walk_at "j"
  refine ⟨c, rfl, by omega, ?_⟩
  repeat walk_at "j"
  refine ⟨c.pairs, rfl, by omega, ?_⟩
  refine ⟨_, rfl, by repeat constructor, fun i d s' hi => ?_, fun s' => ?_⟩
  · rw [List.getElem?_map] at hi
    cases e : (allB c.pairs)[i]? with
    | none => rw [e] at hi; cases hi
    | some ts =>
      rw [e] at hi
      cases hi
      have hl2 := allB_item _ _ (List.mem_of_getElem? e)
      have hi' := (List.getElem?_eq_some_iff.mp e).1
      obtain ⟨h1, h2, h3, h4⟩ := c.turn_all ts
      have hol : (((allB c.pairs).take i).flatMap (rowJ c cs)).length ≤ 128 := by
        rw [rowJ_len, List.length_take]
        omega
      rw [take_snoc e, List.flatMap_append]
      rw [show List.flatMap (rowJ c cs) [ts] = (List.range 2).map (fun k : Nat => rowJ1 c cs ts (k : Int)) from rfl]
      generalize ((allB c.pairs).take i).flatMap (rowJ c cs) = old at hol ⊢
      unfold lD
      repeat walk_at "j"
      refine ws_for_rangeC (fun k => [some (.d c.D), some (.d (.tuple (cs.map .int))), some (.d (.list ((wts cs).map wtD))), some (.own (old ++ (List.range k).map (fun k : Nat => rowJ1 c cs ts (k : Int)))), some (.d (.list (ts.map .int))), none]) ?_
      repeat walk_at "j"
      refine ⟨by decide, by decide, by rw [List.range_zero, List.map_nil, List.append_nil]; repeat constructor, fun k s' hk => ?_, fun s' => ?_⟩
      · rw [List.range_succ, List.map_append, ← List.append_assoc]
        have hk : k < 2 := by omega
        have hol2 : (old ++ (List.range k).map (fun k : Nat => rowJ1 c cs ts (k : Int))).length ≤ 200 := by rw [List.length_append, List.length_map, List.length_range]; omega
        generalize old ++ (List.range k).map (fun k : Nat => rowJ1 c cs ts (k : Int)) = old2 at hol2 ⊢
        repeat walk_at "j"
        refine ⟨c, ts, rfl, by omega, by omega, by omega, ?_⟩
        repeat walk_at "j"
        refine ⟨c.turn ts, (k : Int), cs, rfl, h4 ok, by omega, by omega, by omega, ?_⟩
        repeat walk_at "j"
        refine ⟨by omega, ?_⟩
        repeat constructor
      · repeat constructor
  · rw [List.length_map, List.take_length]
    refine ws_pub (j := 3) rfl ?_
    repeat walk_at "j"
    refine rc_leastD (fewJ_rows c cs) ?_
    exact q

theorem ok_fewest_jumps {P : Program} {w : World} {K : PySem.W.Frag} {mg : Str → Option Value} {base : Heap} {f : Addr} {fd : FuncData}  (F : Fun K "fewest_jumps" "fewest_jumps" s_fewest_jumps f fd) (hb : Blt mg) (c_need_few : Cal P w K mg base 32 "need_few" q_need_few (spD P_need_few)) (c_weights_of : Cal P w K mg base 2 "weights_of" q_weights_of (spD P_weights_of)) (c_pairs_in : Cal P w K mg base 30 "pairs_in" q_pairs_in (spD (P_pairs_in 30))) (c_all_turns : Cal P w K mg base 1 "all_turns" q_all_turns (spD P_all_turns)) (c_turned_by : Cal P w K mg base 30 "turned_by" q_turned_by (spD (P_turned_by 30))) (c_jumps_by : Cal P w K mg base 62 "jumps_by" q_jumps_by (spD P_jumps_by))  : FnOk P w K mg base CX0 63 f fd q_fewest_jumps (spD P_fewest_jumps) := by
  refine fnD F sc_fewest_jumps len_fewest_jumps (t := t_fewest_jumps K) (fun cdv A outer s H E hr => ?_) (w_fewest_jumps )
  have hu64 := hr.units
  have hu := hu_of hr
  exact (pss_cons (ps_expr (pe_callC c_need_few (hr.mono (by omega)) rfl (pa_cons (pv 0) (pa_cons (pv 1) pa_nil))))
    (pss_cons (ps_set (i := 2) sc_fewest_jumps.nd rfl (Or.inl rfl) (pe_callC c_weights_of (hr.mono (by omega)) rfl (pa_cons (pv 1) pa_nil)))
    (pss_cons (ps_set (i := 3) sc_fewest_jumps.nd rfl (Or.inl rfl) (pe_lst pa_nil))
    (pss_cons (ps_for PassesOwn.never rfl (pi_seq (pe_callC c_all_turns (hr.mono (by omega)) rfl (pa_cons (pe_callC c_pairs_in (hr.mono (by omega)) rfl (pa_cons (pv 0) pa_nil)) pa_nil))) (pg_name (i := 4) sc_fewest_jumps.nd rfl (Or.inl rfl)) (pss_one (ps_for PassesOwn.never rfl (pi_range1 (by rfl) hb.range (pa_cons pe_int pa_nil)) (pg_name (i := 5) sc_fewest_jumps.nd rfl (Or.inl rfl)) (pss_one (ps_expr (pe_bm PySem.F.plainAttrs_list PySem.F.slot_list_append PySem.F.type_list_append mt_append (pv 3) (pa_cons (pe_tup (pa_cons (pe_callC c_jumps_by (hr.mono (by omega)) rfl (pa_cons (pe_ix ix_seq (pe_callC c_turned_by (hr.mono (by omega)) rfl (pa_cons (pv 0) (pa_cons (pv 4) pa_nil))) pe_int (fun _ _ => rfl)) (pa_cons (pv 5) (pa_cons (pv 2) pa_nil)))) (pa_cons (pv 4) (pa_cons (pv 5) pa_nil)))) pa_nil)))))))
    (pss_one (ps_ret (pe_callB (cr_minD rfl (hu65_of hr)) (by rfl) hb.min (by decide +kernel) (pa_cons (pv 3) pa_nil))))))))

/-! ### like_worth -/
abbrev s_like_worth : Stmt := top 42
abbrev n_like_worth : List Str := ["one", "other", "worths"]
abbrev q_like_worth : List Str := ["one", "other"]
theorem sc_like_worth : FnScope n_like_worth q_like_worth (defScope s_like_worth) := ⟨rfl, rfl, rfl, by decide +kernel, rfl, by decide +kernel, by decide +kernel⟩

def P_like_worth : Pre := fun ds Ψ => ∃ c d : Cn, ds = [c.D, d.D] ∧ c.ok ∧ c.deep ≤ 10 ∧ c.looks ≤ 12 ∧ d.ok ∧ d.deep ≤ 10 ∧ d.looks ≤ 12 ∧ Ψ (.bool (sameWorth c d))
theorem len_like_worth : ∀ ds Ψ, P_like_worth ds Ψ → ds.length = 2 := fun ds Ψ ⟨_, _, e, _⟩ => by rw [e]; rfl
def lwP (c d : Cn) (x : PyData) : Bool := !decide (c.val (unW x) = d.val (unW x))
theorem lw_filter (c d : Cn) : ((AW.map wD).filter (lwP c d)).isEmpty = sameWorth c d := by
  rw [Bool.eq_iff_iff, List.isEmpty_iff, List.filter_eq_nil_iff]
  unfold sameWorth
  rw [List.all_eq_true]
  constructor
  · intro h n hn
    have hm : wD (wsOf n) ∈ AW.map wD := List.mem_map.mpr ⟨_, List.mem_map.mpr ⟨n, hn, rfl⟩, rfl⟩
    have := h _ hm
    unfold lwP at this
    rw [unW_D] at this
    simpa using this
  · intro h x hx
    obtain ⟨ws, hws, rfl⟩ := List.mem_map.mp hx
    obtain ⟨n, hn, rfl⟩ := List.mem_map.mp hws
    have := h n hn
    unfold lwP
    rw [unW_D]
    simpa using this

def t_like_worth (K : PySem.W.Frag) : TS :=
  (tSeq (tDrop (tCall (spD P_need_condition) [] E0 (tCons (tVar 0) tNil)))
  (tSeq (tDrop (tCall (spD P_need_condition) [] E0 (tCons (tVar 1) tNil)))
  (tRet (tOp (rEqD K) (tLc (iSeq K (tCall (spD P_all_worths) [] E0 tNil)) (gName 2) (tTest (tOp (rNeD K) (tOp (rIx K) (tCall (spD P_told_by) [] E0 (tCons (tVar 0) (tCons (tVar 2) tNil))) (tC (.int 0))) (tOp (rIx K) (tCall (spD P_told_by) [] E0 (tCons (tVar 1) (tCons (tVar 2) tNil))) (tC (.int 0))))) (tVar 2) [2]) (tLst tNil)))))

theorem w_like_worth {K : PySem.W.Frag} : ∀ ds Ψ, P_like_worth ds Ψ → WS uS (t_like_worth K) () (init n_like_worth ds) (fun x _ => Ψ x) (fun _ _ => Ψ .none) := by
  rintro ds Ψ ⟨c, d, rfl, ok, hd, hl, ok', hd', hl', q⟩
  unfold t_like_worth
  repeat walk_at "j"
  refine ⟨c, rfl, ok, hd, hl, ?_⟩
  repeat walk_at "j"
  refine ⟨d, rfl, ok', hd', hl', ?_⟩
  repeat walk_at "j"
  refine wp_lcF_list (gin_name (by decide)) ?_
  repeat walk_at "j"
  refine ⟨rfl, ?_⟩
  repeat walk_at "j"
  refine ⟨by simp [AW], lwP c d, id, fun x hx => ?_, ?_⟩
  · obtain ⟨ws, hws, rfl⟩ := List.mem_map.mp hx
    obtain ⟨n, hn, rfl⟩ := List.mem_map.mp hws
    have hw := wsOf_ws (n : Int)
    unfold LcF
    repeat walk_at "j"
    refine ⟨c, wsOf n, rfl, ok, hw, hd, hl, ?_⟩
    repeat walk_at "j"
    refine ⟨d, wsOf n, rfl, ok', hw, hd', hl', ?_⟩
    repeat walk_at "j"
    refine ⟨by unfold lwP; rw [unW_D], rfl, fun _ => ?_⟩
    repeat walk_at "j"
    exact ⟨rfl, rfl⟩
  · rw [List.map_id]
    repeat walk_at "j"
    have hm : ∀ x ∈ (AW.map wD).filter (lwP c d), nice x = true ∧ x.depth ≤ 2 := fun x hx => by
      obtain ⟨ws, hws, rfl⟩ := List.mem_map.mp (List.mem_filter.mp hx).1
      obtain ⟨n, hn, rfl⟩ := List.mem_map.mp hws
      exact wD_nice _ (by show 8 ≤ 1000; decide)
    have hlen : ((AW.map wD).filter (lwP c d)).length ≤ 256 := Nat.le_trans (List.length_filter_le _ _) (by simp [AW])
    refine rd_eq (shaped_of (nice_lay _ ?_) ?_) (by decide +kernel) ?_
    · simp only [nice, Bool.and_eq_true, decide_eq_true_eq]
      exact ⟨by omega, niceAll_of fun x hx => (hm x hx).1⟩
    · rw [depth_list]
      have := depthAll_le fun x hx => (hm x hx).2
      omega
    · rw [eqv_nil, lw_filter]
      exact q

theorem ok_like_worth {P : Program} {w : World} {K : PySem.W.Frag} {mg : Str → Option Value} {base : Heap} {f : Addr} {fd : FuncData}  (F : Fun K "like_worth" "like_worth" s_like_worth f fd) (hb : Blt mg) (c_need_condition : Cal P w K mg base 31 "need_condition" q_need_condition (spD P_need_condition)) (c_all_worths : Cal P w K mg base 1 "all_worths" q_all_worths (spD P_all_worths)) (c_told_by : Cal P w K mg base 13 "told_by" q_told_by (spD P_told_by))  : FnOk P w K mg base CX0 32 f fd q_like_worth (spD P_like_worth) := by
  refine fnD F sc_like_worth len_like_worth (t := t_like_worth K) (fun cdv A outer s H E hr => ?_) (w_like_worth )
  have hu64 := hr.units
  have hu := hu_of hr
  exact (pss_cons (ps_expr (pe_callC c_need_condition (hr.mono (by omega)) rfl (pa_cons (pv 0) pa_nil)))
    (pss_cons (ps_expr (pe_callC c_need_condition (hr.mono (by omega)) rfl (pa_cons (pv 1) pa_nil)))
    (pss_one (ps_ret (pe_cmpR (op_eqD hu64) (pe_lc (own := [("worths", 2)]) (by rfl) sc_like_worth.nd (pi_seq (pe_callC0 c_all_worths (hr.mono (by omega)) rfl)) (blkOk_by (own := [("worths", 2)]) (N := n_like_worth) (sc := defScope s_like_worth) (by decide +kernel)) (fun _ _ _ _ _ => (pg_name (i := 2) sc_like_worth.nd rfl (Or.inl rfl))) (fun _ _ _ _ _ => (pts_one (pt_cmpR (op_neD hu64) (pe_ix ix_seq (pe_callC c_told_by (hr.mono (by omega)) rfl (pa_cons (pv 0) (pa_cons (pv 2) pa_nil))) pe_int (fun _ _ => rfl)) (pe_ix ix_seq (pe_callC c_told_by (hr.mono (by omega)) rfl (pa_cons (pv 1) (pa_cons (pv 2) pa_nil))) pe_int (fun _ _ => rfl)) (nomark _)))) (fun _ _ _ _ _ => (pv 2))) (pe_lst pa_nil) (nomark _))))))

/-! ### _law_begun -/
abbrev s__law_begun : Stmt := top 44
abbrev n__law_begun : List Str := ["_law_script", "_law_stirred", "_law_cell"]
abbrev q__law_begun : List Str := ["_law_script"]
theorem sc__law_begun : FnScope n__law_begun q__law_begun (defScope s__law_begun) := ⟨rfl, rfl, rfl, by decide +kernel, rfl, by decide +kernel, by decide +kernel⟩

theorem len__law_begun {K : PySem.W.Frag} : ∀ vs H Q E, spBegun K vs H Q E → vs.length = q__law_begun.length := fun vs H Q E ⟨_, _, e, _⟩ => by rw [e]; rfl

def t__law_begun (K : PySem.W.Frag) : TS :=
  (tSeq (tAsg (tC (.int 0)) (gName 1))
  (tSeq (tFor (iSeq K (tVar 0)) (gName 2) (tAsg (tOp rModI (tOp (rAddU K) (tOp (rAddU K) (tOp (rMulU K) (tVar 1) (tC (.int 48271))) (tOp (rMulU K) (tVar 2) (tC (.int 69621)))) (tC (.int 11))) (tC (.int 2147483647))) (gName 1)))
  (tRet (tLst (tCons (tCB (rLstU K) (tCons (tVar 0) tNil)) (tCons (tOp (rMulU K) (tVar 1) (tCB rInt (tCons (tOp rGtI (tCB (rLenU K) (tCons (tVar 0) tNil)) (tC (.int 2))) tNil))) tNil))))))

theorem w__law_begun {K : PySem.W.Frag} : ∀ vs H Q E, spBegun K vs H Q E → t__law_begun K { nx := fun _ H' => Q .non H', rt := Q } (L2.start n__law_begun vs) H := by
  rintro vs H Q E ⟨a, ns, rfl, hS, hl, q⟩
  unfold t__law_begun
  refine .inl ⟨_, rfl, a, rfl, ⟨_, hS⟩, for_list (K := K) (a := a) (xs := ns.map V.int) (fun i σ' H' => H' = H ∧ ∃ z v, σ' = [some (.ref a), some (.int z), v]) ⟨rfl, 0, none, rfl⟩ (fun i σ' H' _ ⟨e, _⟩ => by rw [e]; exact hS) ?_ ?_⟩
  · rintro i y σ' H' hi ⟨rfl, z, v, rfl⟩
    obtain ⟨m, rfl⟩ : ∃ m, y = V.int m := by
      rw [List.getElem?_map] at hi
      cases e : ns[i]? with
      | none => rw [e] at hi; cases hi
      | some m => rw [e] at hi; exact ⟨m, (Option.some.inj hi).symm⟩
    refine ⟨_, rfl, .inl ⟨_, _, rfl, rfl, .inr ⟨by decide, by decide⟩, ?_⟩⟩
    refine ⟨_, rfl, .inl ⟨_, _, rfl, rfl, .inr ⟨by decide, by decide⟩, ?_⟩⟩
    refine .inl ⟨_, _, rfl, rfl, .inl ⟨_, _, rfl, rfl, ?_⟩⟩
    exact ⟨_, _, rfl, rfl, (by show (0 : Int) < 2147483647; decide), rfl, _, _, rfl⟩
  · rintro σ' H' ⟨rfl, z, v, rfl⟩
    refine ⟨_, rfl, a, _, rfl, .inl hS, fun l hl' => ?_⟩
    refine ⟨_, rfl, _, rfl, .inl ⟨a, _, rfl, .inl ((same_new hl').seq hS), ?_⟩⟩
    refine ⟨_, _, rfl, rfl, .inr ⟨_, rfl, .inl ⟨_, _, rfl, rfl, .inr ?_, ?_⟩⟩⟩
    · split <;> exact ⟨by decide, by decide⟩
    · refine ⟨by show 2 ≤ sizeLine; decide, fun b hb => ?_⟩
      have hbl : l ≠ b := fun z => by rw [← z, upd_same] at hb; cases hb
      refine q b l _ ?_ hl' ((same_new hl').trans (same_new hb)) ⟨ns, _, upd_same, by rw [upd_ne hbl, upd_same]⟩
      exact (same_new hl').free hb

theorem ok__law_begun {P : Program} {w : World} {K : PySem.W.Frag} {mg : Str → Option Value} {base : Heap} {f : Addr} {fd : FuncData}  (F : Fun K "_law_begun" "_law_begun" s__law_begun f fd) (hb : Blt mg)   : FnOk P w K mg base CX0 1 f fd q__law_begun (spBegun K) := by
  refine fnR F sc__law_begun len__law_begun (t := t__law_begun K) (fun cdv A outer s H E hr => ?_) (w__law_begun )
  have hu64 := hr.units
  have hu := hu_of hr
  exact (pss_cons (ps_set (i := 1) sc__law_begun.nd rfl (Or.inl rfl) pe_int)
    (pss_cons (ps_for PassesOwn.never rfl (pi_seq (pv 0)) (pg_name (i := 2) sc__law_begun.nd rfl (Or.inl rfl)) (pss_one (ps_set (i := 1) sc__law_begun.nd rfl (Or.inl rfl) (pe_op op_modU (pe_op op_addU (pe_op op_addU (pe_op op_mulU (pv 1) pe_int) (pe_op op_mulU (pv 2) pe_int)) pe_int) pe_int))))
    (pss_one (ps_ret (pe_lst (pa_cons (pe_callTy call_lstU (by rfl) hb.list (by decide +kernel) (pa_cons (pv 0) pa_nil)) (pa_cons (pe_op op_mulU (pv 1) (pe_callTy call_intU (by rfl) hb.int (by decide +kernel) (pa_cons (pe_cmpR op_gtU (pe_callB call_lenU (by rfl) hb.len (by decide +kernel) (pa_cons (pv 0) pa_nil)) pe_int (nomark _)) pa_nil))) pa_nil)))))))

/-! ### _law_take -/
abbrev s__law_take : Stmt := top 45
abbrev n__law_take : List Str := ["_law_box", "_law_many", "_law_number"]
abbrev q__law_take : List Str := ["_law_box", "_law_many"]
theorem sc__law_take : FnScope n__law_take q__law_take (defScope s__law_take) := ⟨rfl, rfl, rfl, by decide +kernel, rfl, by decide +kernel, by decide +kernel⟩

theorem len__law_take : ∀ vs H Q E, spB P_take vs H Q E → vs.length = q__law_take.length := fun vs H Q E ⟨_, _, us, _, ds, _, e, _, _, _, _, d, ⟨_, e2, _⟩, _⟩ => by rw [e, List.length_cons, d.len, e2]; rfl
/-- what is left of a list from which the first is taken where it is 0 or -1 -/
theorem eq_nil (ns : List Int) : PyData.eqv (.list (ns.map .int)) (.list []) = decide (ns = []) := by
  cases ns <;> simp [PyData.eqv, PyData.eqvAll]

def t__law_take (K : PySem.W.Frag) : TS :=
  (tSeq (tIfS (tTest (tOp (rEqD K) (tOp (rIx K) (tVar 0) (tC (.int 0))) (tLst tNil))) (tSeq (tAsg (tOp rModI (tOp (rMulU K) (tOp (rIx K) (tVar 0) (tC (.int 1))) (tC (.int 48271))) (tC (.int 2147483647))) (gSub (tVar 0) (tC (.int 1)) rSetL))
  (tRet (tOp rModI (tOp rDivI (tOp (rIx K) (tVar 0) (tC (.int 1))) (tC (.int 7))) (tVar 1)))) tNext)
  (tSeq (tAsg (tOp (rIx K) (tOp (rIx K) (tVar 0) (tC (.int 0))) (tC (.int 0))) (gName 2))
  (tSeq (tAsg (tOp rDivI (tVar 2) (tVar 1)) (gSub (tOp (rIx K) (tVar 0) (tC (.int 0))) (tC (.int 0)) rSetL))
  (tSeq (tIfS (tOr (tTest (tOp (rEqD K) (tOp (rIx K) (tOp (rIx K) (tVar 0) (tC (.int 0))) (tC (.int 0))) (tC (.int 0)))) (tTest (tOp (rEqD K) (tOp (rIx K) (tOp (rIx K) (tVar 0) (tC (.int 0))) (tC (.int 0))) (tUn rNegI (tC (.int 1)))))) (tDrop (tBM K "list" rPopAt (tOp (rIx K) (tVar 0) (tC (.int 0))) (tCons (tC (.int 0)) tNil))) tNext)
  (tRet (tOp rModI (tVar 2) (tVar 1)))))))

theorem w__law_take {K : PySem.W.Frag} : ∀ vs H Q E, spB P_take vs H Q E → t__law_take K { nx := fun _ H' => Q .non H', rt := Q } (L2.start n__law_take vs) H := by
  rintro vs H Q E ⟨b, l, us, B, ds, Ψ, rfl, hb, hl, ha, dm, d, ⟨m, rfl, m0, m1, hΨ⟩, q⟩
  cases d with
  | cons d1 d2 =>
    cases d2
    cases d1
    have hne := ha.ne
    obtain ⟨ns, z, h1, h2⟩ := ha
    unfold t__law_take
    have fin : ∀ (H' : Hp) (r : Int), 0 ≤ r → r < m → Fr (fun a => a = b ∨ a = l) H H' → BoxAt b l H' → Q (.int r) H' := fun H' r r0 r1 e a => q _ H' (.int r) (hΨ r r0 r1) e a (.int r)
    -- box[0] == []
    refine ⟨_, rfl, .inl ⟨b, _, 0, .ref l, rfl, rfl, SqL.of h1, rfl, ?_⟩⟩
    refine ⟨by show 0 ≤ sizeLine; decide, fun p hp => ?_⟩
    have hbp : b ≠ p := fun z => by rw [z, hp] at h1; cases h1
    have hlp : l ≠ p := fun z => by rw [z, hp] at h2; cases h2
    have g1 : upd H p (.lst []) b = some (.lst [.ref l, .int z]) := by rw [upd_ne hbp]; exact h1
    have g2 : upd H p (.lst []) l = some (.lst (ns.map V.int)) := by rw [upd_ne hlp]; exact h2
    have e0 : Fr (fun a => a = b ∨ a = l) H (upd H p (.lst [])) := Fr.of (same_new hp)
    refine ⟨.list (ns.map .int), .list [], .lst (SqL.of g2) (DDs.dp _ _ (DDs.ints ns)), .lst (SqL.of upd_same) .nil, shaped_ints ns, by decide +kernel, ?_⟩
    refine ⟨_, rfl, ?_⟩
    rw [eq_nil]
    refine ifD (fun hn => ?_) (fun hn => ?_)
    · -- box[1] = box[1] * 48271 % 2147483647; return box[1] // 7 % many
      refine ⟨_, rfl, .inl ⟨b, _, 1, .int z, rfl, rfl, SqL.of g1, rfl, ?_⟩⟩
      refine .inl ⟨_, _, rfl, rfl, .inr ⟨by decide, by decide⟩, ?_⟩
      refine ⟨_, _, rfl, rfl, (by show (0 : Int) < 2147483647; decide), ?_⟩
      refine ⟨_, rfl, b, _, 1, 1, rfl, rfl, g1, rfl, ?_⟩
      refine ⟨_, rfl, .inl ⟨b, _, 1, .int _, rfl, rfl, SqL.of upd_same, rfl, ?_⟩⟩
      refine ⟨_, _, rfl, rfl, ⟨by decide, by decide⟩, ?_⟩
      refine ⟨_, rfl, _, _, rfl, rfl, m0, ?_⟩
      refine fin _ _ (Int.emod_nonneg _ (by omega)) (Int.emod_lt_of_pos _ m0) (e0.trans fun a o h n => ?_) ⟨ns, _, upd_same, ?_⟩
      · rw [upd_ne fun z => n (.inl z)]; exact h
      · rw [upd_ne hne.symm]; exact g2
    · -- number = box[0][0]
      obtain ⟨n0, r, rfl⟩ : ∃ n0 r, ns = n0 :: r := by
        cases ns with
        | nil => exact absurd rfl hn
        | cons n0 r => exact ⟨n0, r, rfl⟩
      refine ⟨_, rfl, .inl ⟨b, _, 0, .ref l, rfl, rfl, SqL.of g1, rfl, ?_⟩⟩
      refine .inl ⟨l, _, 0, .int n0, rfl, rfl, SqL.of g2, at0, ?_⟩
      -- box[0][0] = number // many
      refine ⟨_, rfl, _, rfl, _, _, rfl, rfl, ⟨m0, by omega⟩, ?_⟩
      refine ⟨_, rfl, .inl ⟨b, _, 0, .ref l, rfl, rfl, SqL.of g1, rfl, ?_⟩⟩
      refine ⟨l, _, 0, 0, rfl, rfl, g2, ixn0, ?_⟩
      have k1 : upd (upd H p (.lst [])) l (.lst (((n0 :: r).map V.int).set 0 (.int (n0 / m)))) b = some (.lst [.ref l, .int z]) := by rw [upd_ne hne]; exact g1
      have k2 : upd (upd H p (.lst [])) l (.lst (((n0 :: r).map V.int).set 0 (.int (n0 / m)))) l = some (.lst ((n0 / m :: r).map V.int)) := upd_same
      have e1 : Fr (fun a => a = b ∨ a = l) H (upd (upd H p (.lst [])) l (.lst (((n0 :: r).map V.int).set 0 (.int (n0 / m))))) := e0.trans fun a o h n => by rw [upd_ne fun z => n (.inr z)]; exact h
      generalize upd (upd H p (.lst [])) l (.lst (((n0 :: r).map V.int).set 0 (.int (n0 / m)))) = H2 at k1 k2 e1 ⊢
      have last : ∀ H', Fr (fun a => a = b ∨ a = l) H H' → BoxAt b l H' → tRet (tOp rModI (tVar 2) (tVar 1)) { nx := fun _ H' => Q .non H', rt := Q } [some (.ref b), some (.int m), some (.int n0)] H' := fun H' e a =>
        ⟨_, rfl, _, rfl, _, _, rfl, rfl, m0, fin _ _ (Int.emod_nonneg _ (by omega)) (Int.emod_lt_of_pos _ m0) e a⟩
      have drop : ∀ D : Ends, (∀ H', Fr (fun a => a = b ∨ a = l) H H' → BoxAt b l H' → D.nx [some (.ref b), some (.int m), some (.int n0)] H') →
          tDrop (tBM K "list" rPopAt (tOp (rIx K) (tVar 0) (tC (.int 0))) (tCons (tC (.int 0)) tNil)) D [some (.ref b), some (.int m), some (.int n0)] H2 := fun D k => by
        refine ⟨_, rfl, .inl ⟨b, _, 0, .ref l, rfl, rfl, SqL.of k1, rfl, Or.inl ⟨rfl, _, SqL.of k2⟩, ?_⟩⟩
        refine ⟨l, _, 0, 0, .int (n0 / m), rfl, rfl, k2, by decide, by decide, sqi0, rfl, ?_⟩
        refine k _ (e1.trans fun a o h n => by rw [upd_ne fun z => n (.inr z)]; exact h) ⟨r, z, by rw [upd_ne hne]; exact k1, upd_same⟩
      have get : ∀ Q' : VK, Q' (.int (n0 / m)) H2 → tOp (rIx K) (tOp (rIx K) (tVar 0) (tC (.int 0))) (tC (.int 0)) [some (.ref b), some (.int m), some (.int n0)] H2 Q' := fun Q' k =>
        ⟨_, rfl, .inl ⟨b, _, 0, .ref l, rfl, rfl, SqL.of k1, rfl, .inl ⟨l, _, 0, .int (n0 / m), rfl, rfl, SqL.of k2, at0, k⟩⟩⟩
      -- if box[0][0] == 0 or box[0][0] == -1: box[0].pop(0)
      refine get _ ⟨.int _, .int 0, .int _, .int _, rfl, rfl, _, rfl, ?_⟩
      show if _ = true then _ else _
      cases PyData.eqv (.int (n0 / m)) (.int 0) with
      | true => exact drop _ last
      | false =>
        refine get _ ⟨_, rfl, .int _, .int (-1), .int _, .int _, rfl, rfl, _, rfl, ?_⟩
        cases PyData.eqv (.int (n0 / m)) (.int (-1)) with
        | true => exact drop _ last
        | false => exact last H2 e1 ⟨n0 / m :: r, z, k1, k2⟩

theorem ok__law_take {P : Program} {w : World} {K : PySem.W.Frag} {mg : Str → Option Value} {base : Heap} {f : Addr} {fd : FuncData}  (F : Fun K "_law_take" "_law_take" s__law_take f fd) (hb : Blt mg)   : FnOk P w K mg base CX0 1 f fd q__law_take (spB P_take) := by
  refine fnR F sc__law_take len__law_take (t := t__law_take K) (fun cdv A outer s H E hr => ?_) (w__law_take )
  have hu64 := hr.units
  have hu := hu_of hr
  exact (pss_cons (ps_if (pt_cmpR (op_eqD hu64) (pe_ix ix_seq (pv 0) pe_int (fun _ _ => rfl)) (pe_lst pa_nil) (nomark _)) (pss_cons (ps_asg (pe_op op_modU (pe_op op_mulU (pe_ix ix_seq (pv 0) pe_int (fun _ _ => rfl)) pe_int) pe_int) (pg_sub (pv 0) pe_int set_list))
    (pss_one (ps_ret (pe_op op_modU (pe_op op_divU (pe_ix ix_seq (pv 0) pe_int (fun _ _ => rfl)) pe_int) (pv 1))))) pss_nil)
    (pss_cons (ps_set (i := 2) sc__law_take.nd rfl (Or.inl rfl) (pe_ix ix_seq (pe_ix ix_seq (pv 0) pe_int (fun _ _ => rfl)) pe_int (fun _ _ => rfl)))
    (pss_cons (ps_asg (pe_op op_divU (pv 2) (pv 1)) (pg_sub (pe_ix ix_seq (pv 0) pe_int (fun _ _ => rfl)) pe_int set_list))
    (pss_cons (ps_if (PW.pt (pw_or (pt_cmpR (op_eqD hu64) (pe_ix ix_seq (pe_ix ix_seq (pv 0) pe_int (fun _ _ => rfl)) pe_int (fun _ _ => rfl)) pe_int (nomark _)) (pw_or1 (pt_cmpR (op_eqD hu64) (pe_ix ix_seq (pe_ix ix_seq (pv 0) pe_int (fun _ _ => rfl)) pe_int (fun _ _ => rfl)) (pe_un op_negU pe_int) (nomark _))))) (pss_one (ps_expr (pe_bm PySem.F.plainAttrs_list PySem.F.slot_list_pop PySem.F.type_list_pop mt_popAt (pe_ix ix_seq (pv 0) pe_int (fun _ _ => rfl)) (pa_cons pe_int pa_nil)))) pss_nil)
    (pss_one (ps_ret (pe_op op_modU (pv 2) (pv 1))))))))

/-! ### _law_part -/
abbrev s__law_part : Stmt := top 46
abbrev n__law_part : List Str := ["_law_box", "_law_many", "_law_things"]
abbrev q__law_part : List Str := ["_law_box", "_law_many", "_law_things"]
theorem sc__law_part : FnScope n__law_part q__law_part (defScope s__law_part) := ⟨rfl, rfl, rfl, by decide +kernel, rfl, by decide +kernel, by decide +kernel⟩

/-! ### _law_bare -/
abbrev s__law_bare : Stmt := top 47
abbrev n__law_bare : List Str := ["_law_box", "_law_many", "_law_things", "_law_left", "_law_word"]
abbrev q__law_bare : List Str := ["_law_box", "_law_many", "_law_things"]
theorem sc__law_bare : FnScope n__law_bare q__law_bare (defScope s__law_bare) := ⟨rfl, rfl, rfl, by decide +kernel, rfl, by decide +kernel, by decide +kernel⟩

/-! the law's own conditions -/
structure Things (ts : List Int) : Prop where
  len : 0 < ts.length ∧ ts.length ≤ 8
  ok : ∀ t ∈ ts, 0 ≤ t ∧ t < 8
def P_part (n : Nat) : Pre := fun ds Ψ => ∃ (m : Int) (ts : List Int), ds = [.int m, .list (ts.map .int)] ∧ 1 ≤ m ∧ m ≤ 12 ∧ Things ts ∧ 2 * m ≤ n ∧ ∀ c : Cn, (c.looks : Int) = m → c.ok → (c.deep : Int) ≤ 2 * m - 1 → Ψ c.D
def P_bare (n : Nat) : Pre := fun ds Ψ => ∃ (m : Int) (ts : List Int), ds = [.int m, .list (ts.map .int)] ∧ 1 ≤ m ∧ m ≤ 12 ∧ Things ts ∧ 2 * m - 1 ≤ n ∧ ∀ c : Cn, (c.looks : Int) = m → c.ok → (c.deep : Int) ≤ 2 * m - 2 → Ψ c.D
theorem len__law_part {n : Nat} : ∀ ds Ψ, P_part n ds Ψ → ds.length + 1 = q__law_part.length := fun ds Ψ ⟨_, _, e, _⟩ => by rw [e]; rfl
theorem len__law_bare {n : Nat} : ∀ ds Ψ, P_bare n ds Ψ → ds.length + 1 = q__law_bare.length := fun ds Ψ ⟨_, _, e, _⟩ => by rw [e]; rfl
theorem zero__law_part : ∀ vs H Q E, ¬ spB (P_part 0) vs H Q E := zeroB fun ds Ψ ⟨m, _, _, h, _, _, h2, _⟩ => by
  have h2 : 2 * m ≤ ((0 : Nat) : Int) := h2
  omega
theorem zero__law_bare : ∀ vs H Q E, ¬ spB (P_bare 0) vs H Q E := zeroB fun ds Ψ ⟨m, _, _, h, _, _, h2, _⟩ => by
  have h2 : 2 * m - 1 ≤ ((0 : Nat) : Int) := h2
  omega
theorem at_ts {ts : List Int} (h : Things ts) {r : Int} (r0 : 0 ≤ r) (r1 : r < (ts.length : Int)) : ∃ t, atI (ts.map PyData.int) r = some (.int t) ∧ 0 ≤ t ∧ t < 8 := by
  have hl : r.toNat < ts.length := by omega
  have e : ts[r.toNat]? = some ts[r.toNat] := List.getElem?_eq_getElem hl
  have q : atI (ts.map PyData.int) ((r.toNat : Nat) : Int) = some (.int ts[r.toNat]) := atI_nat (by rw [List.getElem?_map, e]; rfl)
  rw [show ((r.toNat : Nat) : Int) = r from by omega] at q
  exact ⟨_, q, h.ok _ (List.getElem_mem hl)⟩
theorem at_left {m q r : Int} (hm : 2 ≤ m) (q0 : 0 ≤ q) (q1 : q < m - 1) (r0 : 0 ≤ r) (r1 : r < 4) : ∃ k : Int, atI [PyData.int 1, .int (m - 1), .int (1 + q), .int (m / 2)] r = some (.int k) ∧ 1 ≤ k ∧ k ≤ m - 1 := by
  have : r = 0 ∨ r = 1 ∨ r = 2 ∨ r = 3 := by omega
  rcases this with rfl | rfl | rfl | rfl
  · exact ⟨1, rfl, by omega, by omega⟩
  · exact ⟨m - 1, rfl, by omega, by omega⟩
  · exact ⟨1 + q, rfl, by omega, by omega⟩
  · exact ⟨m / 2, rfl, by omega, by omega⟩
theorem at_word {r : Int} (r0 : 0 ≤ r) (r1 : r < 2) : ∃ b, atI [PyData.str wAnd, .str wOr] r = some (.str (wOf b)) := by
  have : r = 0 ∨ r = 1 := by omega
  rcases this with rfl | rfl
  · exact ⟨true, rfl⟩
  · exact ⟨false, rfl⟩


def t__law_part (K : PySem.W.Frag) (n : Nat) : TS :=
  (tSeq (tIfS (tTest (tOp (rEqD K) (tCall (spB P_take) [] E0 (tCons (tVar 0) (tCons (tC (.int 5)) tNil))) (tC (.int 1)))) (tRet (tTup (tCons (tC (.str "not")) (tCons (tCall (spB (P_bare n)) [] E0 (tCons (tVar 0) (tCons (tVar 1) (tCons (tVar 2) tNil)))) tNil)))) tNext)
  (tRet (tCall (spB (P_bare n)) [] E0 (tCons (tVar 0) (tCons (tVar 1) (tCons (tVar 2) tNil))))))

def t__law_bare (K : PySem.W.Frag) (n : Nat) : TS :=
  (tSeq (tIfS (tTest (tOp (rEqD K) (tVar 1) (tC (.int 1)))) (tRet (tTup (tCons (tC (.str "look")) (tCons (tOp (rIx K) (tVar 2) (tCall (spB P_take) [] E0 (tCons (tVar 0) (tCons (tCB (rLenU K) (tCons (tVar 2) tNil)) tNil)))) tNil)))) tNext)
  (tSeq (tAsg (tOp (rIx K) (tLst (tCons (tC (.int 1)) (tCons (tOp rSubI (tVar 1) (tC (.int 1))) (tCons (tOp (rAddU K) (tC (.int 1)) (tCall (spB P_take) [] E0 (tCons (tVar 0) (tCons (tOp rSubI (tVar 1) (tC (.int 1))) tNil)))) (tCons (tOp rDivI (tVar 1) (tC (.int 2))) tNil))))) (tCall (spB P_take) [] E0 (tCons (tVar 0) (tCons (tC (.int 4)) tNil)))) (gName 3))
  (tSeq (tAsg (tOp (rIx K) (tLst (tCons (tC (.str "and")) (tCons (tC (.str "or")) tNil))) (tCall (spB P_take) [] E0 (tCons (tVar 0) (tCons (tC (.int 2)) tNil)))) (gName 4))
  (tRet (tTup (tCons (tVar 4) (tCons (tCall (spB (P_part n)) [] E0 (tCons (tVar 0) (tCons (tVar 3) (tCons (tVar 2) tNil)))) (tCons (tCall (spB (P_part n)) [] E0 (tCons (tVar 0) (tCons (tOp rSubI (tVar 1) (tVar 3)) (tCons (tVar 2) tNil)))) tNil))))))))

theorem w__law_part (n : Nat) {K : PySem.W.Frag} : ∀ b l ds Ψ, P_part (n + 1) ds Ψ → WS (bxS b l) (t__law_part K n) () (initB b n__law_part ds) (fun x _ => Ψ x) (fun _ _ => Ψ .none) := by
  rintro b l ds Ψ ⟨m, ts, rfl, h1, h2, ht, hn, q⟩
  unfold t__law_part
  repeat walk_at "j"
  refine ⟨5, rfl, by omega, by omega, fun r r0 r1 => ?_⟩
  repeat walk_at "j"
  refine ifD (fun h => ?_) (fun h => ?_)
  · repeat walk_at "j"
    refine ⟨m, ts, rfl, h1, h2, ht, by omega, fun c hc ok hd => ?_⟩
    repeat walk_at "j"
    exact q (.nt c) hc ok (by show ((c.deep + 1 : Nat) : Int) ≤ _; omega)
  · repeat walk_at "j"
    exact ⟨m, ts, rfl, h1, h2, ht, by omega, fun c hc ok hd => q c hc ok (by omega)⟩

theorem w__law_bare (n : Nat) {K : PySem.W.Frag} : ∀ b l ds Ψ, P_bare (n + 1) ds Ψ → WS (bxS b l) (t__law_bare K n) () (initB b n__law_bare ds) (fun x _ => Ψ x) (fun _ _ => Ψ .none) := by
  rintro b l ds Ψ ⟨m, ts, rfl, h1, h2, ht, hn, q⟩
  unfold t__law_bare
  repeat walk_at "j"
  refine ifD (fun h => ?_) (fun h => ?_)
  · repeat walk_at "j"
    refine ⟨_, rfl, by rw [List.length_map]; have := ht.len; omega, by rw [List.length_map]; have := ht.len; omega, fun r r0 r1 => ?_⟩
    rw [List.length_map] at r1
    obtain ⟨t, e, t0, t1⟩ := at_ts ht r0 r1
    refine rd_ixL e ?_
    repeat walk_at "j"
    exact q (.look t) (by show ((1 : Nat) : Int) = m; omega) ⟨t0, t1⟩ (by show ((0 : Nat) : Int) ≤ _; omega)
  · repeat walk_at "j"
    refine ⟨_, rfl, by omega, by omega, fun r r0 r1 => ?_⟩
    repeat walk_at "j"
    refine ⟨_, rfl, by omega, by omega, fun r2 r20 r21 => ?_⟩
    obtain ⟨k, e, k0, k1⟩ := at_left (by omega) r0 r1 r20 r21
    refine rd_ixL e ?_
    repeat walk_at "j"
    refine ⟨_, rfl, by omega, by omega, fun r3 r30 r31 => ?_⟩
    obtain ⟨w, e⟩ := at_word r30 r31
    refine rd_ixL e ?_
    repeat walk_at "j"
    refine ⟨k, ts, rfl, k0, by omega, ht, by omega, fun c hc okc dc => ?_⟩
    repeat walk_at "j"
    refine ⟨m - k, ts, rfl, by omega, by omega, ht, by omega, fun d hd okd dd => ?_⟩
    repeat walk_at "j"
    have q := q (.pr w c d) (by show ((c.looks + d.looks : Nat) : Int) = m; omega) ⟨okc, okd⟩ (by show ((max c.deep d.deep + 1 : Nat) : Int) ≤ _; omega)
    rw [D_pr] at q
    exact q

theorem ok__law_part {P : Program} {w : World} {K : PySem.W.Frag} {mg : Str → Option Value} {base : Heap} {f : Addr} {fd : FuncData}  (n : Nat) (F : Fun K "_law_part" "_law_part" s__law_part f fd) (hb : Blt mg) (c__law_take : Cal P w K mg base 1 "_law_take" q__law_take (spB P_take)) (c__law_bare : Cal P w K mg base (n + 1) "_law_bare" q__law_bare (spB (P_bare n)))  : FnOk P w K mg base CX0 (n + 1 + 1) f fd q__law_part (spB (P_part (n + 1))) := by
  refine fnB F sc__law_part len__law_part (t := t__law_part K n) (fun cdv A outer s H E hr => ?_) (w__law_part n )
  have hu64 := hr.units
  have hu := hu_of hr
  exact (pss_cons (ps_if (pt_cmpR (op_eqD hu64) (pe_callC c__law_take (hr.mono (by omega)) rfl (pa_cons (pv 0) (pa_cons pe_int pa_nil))) pe_int (nomark _)) (pss_one (ps_ret (pe_tup (pa_cons pe_str (pa_cons (pe_callC c__law_bare (hr.mono (by omega)) rfl (pa_cons (pv 0) (pa_cons (pv 1) (pa_cons (pv 2) pa_nil)))) pa_nil))))) pss_nil)
    (pss_one (ps_ret (pe_callC c__law_bare (hr.mono (by omega)) rfl (pa_cons (pv 0) (pa_cons (pv 1) (pa_cons (pv 2) pa_nil)))))))

theorem ok__law_bare {P : Program} {w : World} {K : PySem.W.Frag} {mg : Str → Option Value} {base : Heap} {f : Addr} {fd : FuncData}  (n : Nat) (F : Fun K "_law_bare" "_law_bare" s__law_bare f fd) (hb : Blt mg) (c__law_take : Cal P w K mg base 1 "_law_take" q__law_take (spB P_take)) (c__law_part : Cal P w K mg base (n + 1) "_law_part" q__law_part (spB (P_part n)))  : FnOk P w K mg base CX0 (n + 1 + 1) f fd q__law_bare (spB (P_bare (n + 1))) := by
  refine fnB F sc__law_bare len__law_bare (t := t__law_bare K n) (fun cdv A outer s H E hr => ?_) (w__law_bare n )
  have hu64 := hr.units
  have hu := hu_of hr
  exact (pss_cons (ps_if (pt_cmpR (op_eqD hu64) (pv 1) pe_int (nomark _)) (pss_one (ps_ret (pe_tup (pa_cons pe_str (pa_cons (pe_ix ix_seq (pv 2) (pe_callC c__law_take (hr.mono (by omega)) rfl (pa_cons (pv 0) (pa_cons (pe_callB call_lenU (by rfl) hb.len (by decide +kernel) (pa_cons (pv 2) pa_nil)) pa_nil))) (fun _ _ => rfl)) pa_nil))))) pss_nil)
    (pss_cons (ps_set (i := 3) sc__law_bare.nd rfl (Or.inl rfl) (pe_ix ix_seq (pe_lst (pa_cons pe_int (pa_cons (pe_op op_subU (pv 1) pe_int) (pa_cons (pe_op op_addU pe_int (pe_callC c__law_take (hr.mono (by omega)) rfl (pa_cons (pv 0) (pa_cons (pe_op op_subU (pv 1) pe_int) pa_nil)))) (pa_cons (pe_op op_divU (pv 1) pe_int) pa_nil))))) (pe_callC c__law_take (hr.mono (by omega)) rfl (pa_cons (pv 0) (pa_cons pe_int pa_nil))) (fun _ _ => rfl)))
    (pss_cons (ps_set (i := 4) sc__law_bare.nd rfl (Or.inl rfl) (pe_ix ix_seq (pe_lst (pa_cons pe_str (pa_cons pe_str pa_nil))) (pe_callC c__law_take (hr.mono (by omega)) rfl (pa_cons (pv 0) (pa_cons pe_int pa_nil))) (fun _ _ => rfl)))
    (pss_one (ps_ret (pe_tup (pa_cons (pv 4) (pa_cons (pe_callC c__law_part (hr.mono (by omega)) rfl (pa_cons (pv 0) (pa_cons (pv 3) (pa_cons (pv 2) pa_nil)))) (pa_cons (pe_callC c__law_part (hr.mono (by omega)) rfl (pa_cons (pv 0) (pa_cons (pe_op op_subU (pv 1) (pv 3)) (pa_cons (pv 2) pa_nil)))) pa_nil)))))))))

theorem all__law_part {P : Program} {w : World} {K : PySem.W.Frag} {mg : Str → Option Value} {base : Heap}  {f__law_part : Addr} {d__law_part : FuncData} (F__law_part : Fun K "_law_part" "_law_part" s__law_part f__law_part d__law_part) (m__law_part : mg "_law_part" = some (.ref f__law_part)) (B__law_part : Binds K d__law_part q__law_part []) {f__law_bare : Addr} {d__law_bare : FuncData} (F__law_bare : Fun K "_law_bare" "_law_bare" s__law_bare f__law_bare d__law_bare) (m__law_bare : mg "_law_bare" = some (.ref f__law_bare)) (B__law_bare : Binds K d__law_bare q__law_bare []) (hb : Blt mg) (c__law_take : Cal P w K mg base 1 "_law_take" q__law_take (spB P_take)) : ∀ n : Nat, Cal P w K mg base (n + 1) "_law_part" q__law_part (spB (P_part n)) ∧ Cal P w K mg base (n + 1) "_law_bare" q__law_bare (spB (P_bare n))
  | 0 => ⟨cal_zero F__law_part.kp m__law_part B__law_part zero__law_part, cal_zero F__law_bare.kp m__law_bare B__law_bare zero__law_bare⟩
  | n + 1 => by
    have ⟨c__law_part, c__law_bare⟩ := all__law_part (P := P) (w := w) (base := base) F__law_part m__law_part B__law_part F__law_bare m__law_bare B__law_bare hb c__law_take n
    have e : n + 1 + 1 = n + 1 + 1 := by omega
    rw [e]
    exact ⟨⟨_, _, m__law_part, F__law_part.kp, B__law_part, ok__law_part n F__law_part hb c__law_take c__law_bare⟩, ⟨_, _, m__law_bare, F__law_bare.kp, B__law_bare, ok__law_bare n F__law_bare hb c__law_take c__law_part⟩⟩

/-! ### _law_deep -/
abbrev s__law_deep : Stmt := top 48
abbrev n__law_deep : List Str := ["_law_part_here", "_law_one"]
abbrev q__law_deep : List Str := ["_law_part_here"]
theorem sc__law_deep : FnScope n__law_deep q__law_deep (defScope s__law_deep) := ⟨rfl, rfl, rfl, by decide +kernel, rfl, by decide +kernel, by decide +kernel⟩

def P_deep (n : Nat) : Pre := fun ds Ψ => ∃ c : Cn, ds = [c.D] ∧ c.deep < n ∧ Ψ (.int c.deep)
theorem len__law_deep {n : Nat} : ∀ ds Ψ, P_deep n ds Ψ → ds.length = 1 := fun ds Ψ ⟨_, e, _⟩ => by rw [e]; rfl
theorem zero__law_deep : ∀ vs H Q E, ¬ spD (P_deep 0) vs H Q E := zeroD fun ds Ψ ⟨_, _, h, _⟩ => absurd h (Nat.not_lt_zero _)

def t__law_deep (K : PySem.W.Frag) (n : Nat) : TS :=
  (tRet (tIf (tTest (tOp (rEqD K) (tOp (rIx K) (tVar 0) (tC (.int 0))) (tC (.str "look")))) (tC (.int 0)) (tOp (rAddU K) (tC (.int 1)) (tCB (rMax K) (tCons (tLc (iSeq K (tSl (rSlU K) (tVar 0) (tPart (tC (.int 1))) tNoPart)) (gName 1) tYes (tCall (spD (P_deep n)) [] E0 (tCons (tVar 1) tNil)) [1]) tNil)))))

theorem w__law_deep (n : Nat) {K : PySem.W.Frag} : ∀ ds Ψ, P_deep (n + 1) ds Ψ → WS uS (t__law_deep K n) () (init n__law_deep ds) (fun x _ => Ψ x) (fun _ _ => Ψ .none) := by
  rintro ds Ψ ⟨c, rfl, hd, q⟩
  unfold t__law_deep
  cases c with
  | look i =>
    unfold Cn.D
    repeat walk_at "j"
    exact q
  | nt c =>
    have hd : c.deep + 1 < n + 1 := hd
    unfold Cn.D
    repeat walk_at "j"
    walk_at "js"
    repeat walk_at "j"
    refine ⟨c, rfl, by omega, ?_⟩
    repeat walk_at "j"
    refine rc_max (ns := [(c.deep : Int)]) rfl (by simp) fun m h1 h2 => ?_
    have e : m = (c.deep : Int) := by simpa using h1
    subst e
    repeat walk_at "j"
    have e : (1 : Int) + (c.deep : Int) = ((c.deep + 1 : Nat) : Int) := by omega
    rw [e]
    exact q
  | pr b x y =>
    have hd : max x.deep y.deep + 1 < n + 1 := hd
    rw [D_pr]
    cases b <;> unfold wOf
    all_goals
      repeat walk_at "j"
      walk_at "js"
      repeat walk_at "j"
      refine ⟨x, rfl, by omega, ?_⟩
      repeat walk_at "j"
      refine ⟨y, rfl, by omega, ?_⟩
      repeat walk_at "j"
      refine rc_max (ns := [(x.deep : Int), (y.deep : Int)]) rfl (by simp) fun m h1 h2 => ?_
      have e1 : m = (x.deep : Int) ∨ m = (y.deep : Int) := by simpa using h1
      have e2 := h2 (x.deep : Int) (by simp)
      have e3 := h2 (y.deep : Int) (by simp)
      repeat walk_at "j"
      have e : (1 : Int) + m = ((max x.deep y.deep + 1 : Nat) : Int) := by omega
      rw [e]
      exact q

theorem ok__law_deep {P : Program} {w : World} {K : PySem.W.Frag} {mg : Str → Option Value} {base : Heap} {f : Addr} {fd : FuncData}  (n : Nat) (F : Fun K "_law_deep" "_law_deep" s__law_deep f fd) (hb : Blt mg) (c__law_deep : Cal P w K mg base (n + 0) "_law_deep" q__law_deep (spD (P_deep n)))  : FnOk P w K mg base CX0 (n + 0 + 1) f fd q__law_deep (spD (P_deep (n + 1))) := by
  refine fnD F sc__law_deep len__law_deep (t := t__law_deep K n) (fun cdv A outer s H E hr => ?_) (w__law_deep n )
  have hu64 := hr.units
  have hu := hu_of hr
  exact (pss_one (ps_ret (pe_ifExp (pt_cmpR (op_eqD hu64) (pe_ix ix_seq (pv 0) pe_int (fun _ _ => rfl)) pe_str (nomark _)) pe_int (pe_op op_addU pe_int (pe_callB (cr_max rfl) (by rfl) hb.max (by decide +kernel) (pa_cons (pe_lc (own := [("_law_one", 1)]) (by rfl) sc__law_deep.nd (pi_seq (pe_slice sl_U (pv 0) (po_some pe_int) po_none)) (blkOk_by (own := [("_law_one", 1)]) (N := n__law_deep) (sc := defScope s__law_deep) (by decide +kernel)) (fun _ _ _ _ _ => (pg_name (i := 1) sc__law_deep.nd rfl (Or.inl rfl))) (fun _ _ _ _ _ => pts_nil) (fun _ _ _ _ _ => (pe_callC c__law_deep (hr.mono (by omega)) rfl (pa_cons (pv 1) pa_nil)))) pa_nil))))))

theorem all__law_deep {P : Program} {w : World} {K : PySem.W.Frag} {mg : Str → Option Value} {base : Heap}  {f__law_deep : Addr} {d__law_deep : FuncData} (F__law_deep : Fun K "_law_deep" "_law_deep" s__law_deep f__law_deep d__law_deep) (m__law_deep : mg "_law_deep" = some (.ref f__law_deep)) (B__law_deep : Binds K d__law_deep q__law_deep []) (hb : Blt mg)  : ∀ n : Nat, Cal P w K mg base (n + 0) "_law_deep" q__law_deep (spD (P_deep n))
  | 0 => cal_zero F__law_deep.kp m__law_deep B__law_deep zero__law_deep
  | n + 1 => by
    have c__law_deep := all__law_deep (P := P) (w := w) (base := base) F__law_deep m__law_deep B__law_deep hb  n
    have e : n + 1 + 0 = n + 0 + 1 := by omega
    rw [e]
    exact ⟨_, _, m__law_deep, F__law_deep.kp, B__law_deep, ok__law_deep n F__law_deep hb c__law_deep⟩

/-! ### _law_pairs -/
abbrev s__law_pairs : Stmt := top 50
abbrev n__law_pairs : List Str := ["_law_part_here", "_law_one"]
abbrev q__law_pairs : List Str := ["_law_part_here"]
theorem sc__law_pairs : FnScope n__law_pairs q__law_pairs (defScope s__law_pairs) := ⟨rfl, rfl, rfl, by decide +kernel, rfl, by decide +kernel, by decide +kernel⟩

def P_lpairs (n : Nat) : Pre := fun ds Ψ => ∃ c : Cn, ds = [c.D] ∧ c.deep < n ∧ Ψ (.int c.pairs)
theorem len__law_pairs {n : Nat} : ∀ ds Ψ, P_lpairs n ds Ψ → ds.length = 1 := fun ds Ψ ⟨_, e, _⟩ => by rw [e]; rfl
theorem zero__law_pairs : ∀ vs H Q E, ¬ spD (P_lpairs 0) vs H Q E := zeroD fun ds Ψ ⟨_, _, h, _⟩ => absurd h (Nat.not_lt_zero _)

def t__law_pairs (K : PySem.W.Frag) (n : Nat) : TS :=
  (tSeq (tIfS (tTest (tOp (rEqD K) (tOp (rIx K) (tVar 0) (tC (.int 0))) (tC (.str "look")))) (tRet (tC (.int 0))) tNext)
  (tRet (tOp (rAddU K) (tCB rInt (tCons (tOp (rNeD K) (tOp (rIx K) (tVar 0) (tC (.int 0))) (tC (.str "not"))) tNil)) (tCB (rSum K) (tCons (tLc (iSeq K (tSl (rSlU K) (tVar 0) (tPart (tC (.int 1))) tNoPart)) (gName 1) tYes (tCall (spD (P_lpairs n)) [] E0 (tCons (tVar 1) tNil)) [1]) tNil)))))

theorem w__law_pairs (n : Nat) {K : PySem.W.Frag} : ∀ ds Ψ, P_lpairs (n + 1) ds Ψ → WS uS (t__law_pairs K n) () (init n__law_pairs ds) (fun x _ => Ψ x) (fun _ _ => Ψ .none) := by
  rintro ds Ψ ⟨c, rfl, hd, q⟩
  unfold t__law_pairs
  cases c with
  | look i =>
    unfold Cn.D
    repeat walk_at "j"
    exact q
  | nt c =>
    have hd : c.deep + 1 < n + 1 := hd
    unfold Cn.D
    repeat walk_at "j"
    walk_at "js"
    repeat walk_at "j"
    refine ⟨c, rfl, by omega, ?_⟩
    repeat walk_at "j"
    refine rc_sum (ns := [(c.pairs : Int)]) rfl ?_
    repeat walk_at "j"
    simpa [Cn.pairs] using q
  | pr b x y =>
    have hd : max x.deep y.deep + 1 < n + 1 := hd
    have nl := wOf_nl b
    have nn := wOf_nn b
    have so := wOf_so b
    rw [D_pr]
    repeat walk_at "j"
    refine rd_eqW so (by decide +kernel) ?_
    rw [show (wOf b == Str.ofString "look") = false from nl]
    repeat walk_at "j"
    refine rd_neW so (by decide +kernel) ?_
    rw [show (wOf b == Str.ofString "not") = false from nn]
    repeat walk_at "j"
    walk_at "js"
    repeat walk_at "j"
    refine ⟨x, rfl, by omega, ?_⟩
    repeat walk_at "j"
    refine ⟨y, rfl, by omega, ?_⟩
    repeat walk_at "j"
    refine rc_sum (ns := [(x.pairs : Int), (y.pairs : Int)]) rfl ?_
    repeat walk_at "j"
    refine Eq.mp (congrArg (fun z => Ψ (.int z)) ?_) q
    simp [Cn.pairs]
    omega

theorem ok__law_pairs {P : Program} {w : World} {K : PySem.W.Frag} {mg : Str → Option Value} {base : Heap} {f : Addr} {fd : FuncData}  (n : Nat) (F : Fun K "_law_pairs" "_law_pairs" s__law_pairs f fd) (hb : Blt mg) (c__law_pairs : Cal P w K mg base (n + 0) "_law_pairs" q__law_pairs (spD (P_lpairs n)))  : FnOk P w K mg base CX0 (n + 0 + 1) f fd q__law_pairs (spD (P_lpairs (n + 1))) := by
  refine fnD F sc__law_pairs len__law_pairs (t := t__law_pairs K n) (fun cdv A outer s H E hr => ?_) (w__law_pairs n )
  have hu64 := hr.units
  have hu := hu_of hr
  exact (pss_cons (ps_if (pt_cmpR (op_eqD hu64) (pe_ix ix_seq (pv 0) pe_int (fun _ _ => rfl)) pe_str (nomark _)) (pss_one (ps_ret pe_int)) pss_nil)
    (pss_one (ps_ret (pe_op op_addU (pe_callTy call_intU (by rfl) hb.int (by decide +kernel) (pa_cons (pe_cmpR (op_neD hu64) (pe_ix ix_seq (pv 0) pe_int (fun _ _ => rfl)) pe_str (nomark _)) pa_nil)) (pe_callB (cr_sum rfl) (by rfl) hb.sum (by decide +kernel) (pa_cons (pe_lc (own := [("_law_one", 1)]) (by rfl) sc__law_pairs.nd (pi_seq (pe_slice sl_U (pv 0) (po_some pe_int) po_none)) (blkOk_by (own := [("_law_one", 1)]) (N := n__law_pairs) (sc := defScope s__law_pairs) (by decide +kernel)) (fun _ _ _ _ _ => (pg_name (i := 1) sc__law_pairs.nd rfl (Or.inl rfl))) (fun _ _ _ _ _ => pts_nil) (fun _ _ _ _ _ => (pe_callC c__law_pairs (hr.mono (by omega)) rfl (pa_cons (pv 1) pa_nil)))) pa_nil))))))

theorem all__law_pairs {P : Program} {w : World} {K : PySem.W.Frag} {mg : Str → Option Value} {base : Heap}  {f__law_pairs : Addr} {d__law_pairs : FuncData} (F__law_pairs : Fun K "_law_pairs" "_law_pairs" s__law_pairs f__law_pairs d__law_pairs) (m__law_pairs : mg "_law_pairs" = some (.ref f__law_pairs)) (B__law_pairs : Binds K d__law_pairs q__law_pairs []) (hb : Blt mg)  : ∀ n : Nat, Cal P w K mg base (n + 0) "_law_pairs" q__law_pairs (spD (P_lpairs n))
  | 0 => cal_zero F__law_pairs.kp m__law_pairs B__law_pairs zero__law_pairs
  | n + 1 => by
    have c__law_pairs := all__law_pairs (P := P) (w := w) (base := base) F__law_pairs m__law_pairs B__law_pairs hb  n
    have e : n + 1 + 0 = n + 0 + 1 := by omega
    rw [e]
    exact ⟨_, _, m__law_pairs, F__law_pairs.kp, B__law_pairs, ok__law_pairs n F__law_pairs hb c__law_pairs⟩

/-! ### law -/
abbrev s_law : Stmt := top 51
abbrev n_law : List Str := ["_law_script", "_law_box", "_law_things", "_law_part_here", "_law_many", "_law_chances", "_law_thing", "_law_least", "_law_turns", "_law_fewest", "_law_others", "_law_first", "_law_some", "_law_pair", "_law_turn", "_law_one", "_law_other"]
abbrev q_law : List Str := ["_law_script"]
theorem sc_law : FnScope n_law q_law (defScope s_law) := ⟨rfl, rfl, rfl, by decide +kernel, rfl, by decide +kernel, by decide +kernel⟩

/-- a condition's first part -/
theorem first_part {c : Cn} (h : 0 < c.deep) : ∃ d : Cn, (∃ w r, c.D = .tuple (w :: d.D :: r)) ∧ d.deep < c.deep ∧ d.looks ≤ c.looks ∧ (c.ok → d.ok) := by
  cases c with
  | look i => exact absurd h (Nat.lt_irrefl _)
  | nt c => exact ⟨c, ⟨_, _, rfl⟩, Nat.lt_succ_self _, Nat.le_refl _, fun z => z⟩
  | pr b x y => exact ⟨x, ⟨_, _, D_pr b x y⟩, by show x.deep < max x.deep y.deep + 1; omega, Nat.le_add_right _ _, fun z => z.1⟩
theorem at_things8 {r : Int} (r0 : 0 ≤ r) (r1 : r < 4) : ∃ ts : List Int, atI [PyData.list [.int 0, .int 1, .int 2, .int 3, .int 4, .int 5, .int 6, .int 7], .list [.int 0, .int 1, .int 2, .int 3]] (r / 3) = some (.list (ts.map .int)) ∧ Things ts := by
  have : r / 3 = 0 ∨ r / 3 = 1 := by omega
  rcases this with e | e <;> rw [e]
  · exact ⟨[0, 1, 2, 3, 4, 5, 6, 7], rfl, ⟨by decide, by decide⟩, by decide⟩
  · exact ⟨[0, 1, 2, 3], rfl, ⟨by decide, by decide⟩, by decide⟩
/-- one turn exchanged -/
def flipT (ts : List Int) (k : Nat) : List Int := ts.take k ++ ([1 - getI ts k] ++ ts.drop (k + 1))
theorem flip_Ts {c : Cn} {ts : List Int} {k : Nat} (h : Ts c ts) (hk : k < c.pairs) : Ts c (flipT ts k) := by
  have hk' : k < ts.length := by rw [h.1]; exact hk
  refine ⟨?_, fun t ht => ?_⟩
  · unfold flipT
    simp only [List.length_append, List.length_take, List.length_drop, List.length_cons, List.length_nil]
    have := h.1
    omega
  · unfold flipT at ht
    rcases List.mem_append.mp ht with ht | ht
    · exact h.2 t (List.mem_of_mem_take ht)
    · rcases List.mem_append.mp ht with ht | ht
      · rw [List.mem_singleton.mp ht]
        have := h.2 _ (at_getI (l := ts) (i := k) hk').2
        omega
      · exact h.2 t (List.mem_of_mem_drop ht)
def IsT (c : Cn) (x : PyData) : Prop := ∃ ts, Ts c ts ∧ x = .list (ts.map .int)
theorem cutD_to {xs : List PyData} {n : Nat} (h : n ≤ xs.length) : cutD xs none (some (n : Int)) = xs.take n := by
  have e : HT.sIx xs.length xs.length (some (n : Int)) = n := by
    have h1 := HT.sIx_nat xs.length xs.length n
    have h2 : min n xs.length = n := by omega
    rw [h2] at h1
    exact h1
  unfold cutD
  rw [e, HT.sIx_none, Nat.sub_zero, List.drop_zero]
theorem cutD_fro {xs : List PyData} {n : Nat} (h : n ≤ xs.length) : cutD xs (some (n : Int)) none = xs.drop n := by
  have e : HT.sIx xs.length 0 (some (n : Int)) = n := by
    have h1 := HT.sIx_nat xs.length 0 n
    have h2 : min n xs.length = n := by omega
    rw [h2] at h1
    exact h1
  unfold cutD
  rw [e, HT.sIx_none]
  exact List.take_of_length_le (by rw [List.length_drop]; omega)

def lb1_law (K : PySem.W.Frag) : TS :=
  (tSeq (tDrop (tBM K "list" rAppend (tVar 12) (tCons (tOp (rAddU K) (tOp (rAddU K) (tSl (rSlU K) (tVar 8) tNoPart (tPart (tVar 13))) (tLst (tCons (tOp rSubI (tC (.int 1)) (tOp (rIx K) (tVar 8) (tVar 13))) tNil))) (tSl (rSlU K) (tVar 8) (tPart (tOp (rAddU K) (tVar 13) (tC (.int 1)))) tNoPart)) tNil)))
  (tDrop (tBM K "list" rAppend (tVar 12) (tCons (tOp (rAddU K) (tOp (rAddU K) (tSl (rSlU K) (tVar 10) tNoPart (tPart (tVar 13))) (tLst (tCons (tOp rSubI (tC (.int 1)) (tOp (rIx K) (tVar 10) (tVar 13))) tNil))) (tSl (rSlU K) (tVar 10) (tPart (tOp (rAddU K) (tVar 13) (tC (.int 1)))) tNoPart)) tNil))))

def lb2_law (K : PySem.W.Frag) : TS :=
  (tSeq (tAsg (tCall (spD P_turned) [] E0 (tCons (tVar 3) (tCons (tVar 15) tNil))) (gName 16))
  (tSeq (tIfS (tOr (tNot (tB (tCall (spD P_like_worth) [] E0 (tCons (tVar 3) (tCons (tVar 16) tNil))))) (tTest (tOp rLtI (tCall (spD P_looks) [] E0 (tCons (tVar 16) (tCons (tVar 5) tNil))) (tVar 7)))) (tRet (tC (.bl false))) tNext)
  (tIfS (tOr (tTest (tOp rLtI (tCall (spD P_jumps) [] E0 (tCons (tVar 16) (tCons (tC (.int 0)) (tCons (tVar 5) tNil)))) (tVar 9))) (tTest (tOp rLtI (tCall (spD P_jumps) [] E0 (tCons (tVar 16) (tCons (tC (.int 1)) (tCons (tVar 5) tNil)))) (tVar 9)))) (tRet (tC (.bl false))) tNext)))

def lb4_law (K : PySem.W.Frag) : TS :=
  (tSeq (tFor (iRng1 (tCons (tVar 4) tNil)) (gName 13) (lb1_law K))
  (tSeq (tFor (iSeq K (tVar 12)) (gName 15) (lb2_law K))
  (tRet (tC (.bl true)))))

def lb3_law (K : PySem.W.Frag) : TS :=
  (tSeq (tAsg (tCall (spD P_fewest_looks) [] E0 (tCons (tVar 3) (tCons (tVar 5) tNil))) (gTup K 2 (gCons (gName 7) (gCons (gName 8) gNil))))
  (tSeq (tAsg (tCall (spD P_fewest_jumps) [] E0 (tCons (tVar 3) (tCons (tVar 5) tNil))) (gTup K 3 (gCons (gName 9) (gCons (gName 10) (gCons (gName 11) gNil)))))
  (tSeq (tIfS (tOr (tTest (tOp (rNeD K) (tCall (spD P_looks) [] E0 (tCons (tCall (spD P_turned) [] E0 (tCons (tVar 3) (tCons (tVar 8) tNil))) (tCons (tVar 5) tNil))) (tVar 7))) (tTest (tOp (rNeD K) (tCall (spD P_jumps) [] E0 (tCons (tCall (spD P_turned) [] E0 (tCons (tVar 3) (tCons (tVar 10) tNil))) (tCons (tVar 11) (tCons (tVar 5) tNil)))) (tVar 9)))) (tRet (tC (.bl false))) tNext)
  (tSeq (tAsg (tLc (iRng1 (tCons (tC (.int 4)) tNil)) (gName 14) tYes (tLc (iRng1 (tCons (tVar 4) tNil)) (gName 13) tYes (tCall (spB P_take) [] E0 (tCons (tVar 1) (tCons (tC (.int 2)) tNil))) [13]) [14]) (gName 12))
  (lb4_law K)))))

def u_law (K : PySem.W.Frag) : TS :=
  (tSeq (tAsg (tOp (rIx K) (tLst (tCons (tLst (tCons (tC (.int 0)) (tCons (tC (.int 1)) (tCons (tC (.int 2)) (tCons (tC (.int 3)) (tCons (tC (.int 4)) (tCons (tC (.int 5)) (tCons (tC (.int 6)) (tCons (tC (.int 7)) tNil))))))))) (tCons (tLst (tCons (tC (.int 0)) (tCons (tC (.int 1)) (tCons (tC (.int 2)) (tCons (tC (.int 3)) tNil))))) tNil))) (tOp rDivI (tCall (spB P_take) [] E0 (tCons (tVar 1) (tCons (tC (.int 4)) tNil))) (tC (.int 3)))) (gName 2))
  (tSeq (tAsg (tCall (spB (P_bare 24)) [] E0 (tCons (tVar 1) (tCons (tC (.int 7)) (tCons (tVar 2) tNil)))) (gName 3))
  (tSeq (tWhile (tTest (tOp rGtI (tCall (spD (P_deep 30)) [] E0 (tCons (tVar 3) tNil)) (tC (.int 10)))) (tAsg (tOp (rIx K) (tVar 3) (tC (.int 1))) (gName 3)))
  (tSeq (tAsg (tCall (spD (P_lpairs 30)) [] E0 (tCons (tVar 3) tNil)) (gName 4))
  (tSeq (tAsg (tCB (rTupU K) (tCons (tLc (iRng1 (tCons (tC (.int 8)) tNil)) (gName 6) tYes (tOp (rIx K) (tLst (tCons (tC (.int 0)) (tCons (tC (.int 100)) (tCons (tC (.int 50)) (tCons (tCall (spB P_take) [] E0 (tCons (tVar 1) (tCons (tC (.int 101)) tNil))) tNil))))) (tCall (spB P_take) [] E0 (tCons (tVar 1) (tCons (tC (.int 4)) tNil)))) [6]) tNil)) (gName 5))
  (lb3_law K))))))

theorem w_lb1_law {K : PySem.W.Frag} {b l : Addr} {c : Cn} {cs ts us : List Int} {old : List PyData} {f m m' : Int} {k : Nat} (hp : c.pairs ≤ 100) (ht : Ts c ts) (hu : Ts c us) (hk : k < c.pairs) (hol : old.length ≤ 1000) {R : PyData → (bxS b l).S → Prop} {N : DEnv → (bxS b l).S → Prop}
    (hN : ∀ ρ, LeE [none, some (.v (.ref b)), none, some (.d c.D), some (.d (.int c.pairs)), some (.d (.tuple (cs.map .int))), none, some (.d (.int m)), some (.d (.list (ts.map .int))), some (.d (.int m')), some (.d (.list (us.map .int))), some (.d (.int f)), some (.own (old ++ [.list ((flipT ts k).map .int)] ++ [.list ((flipT us k).map .int)])), none, none, none, none] ρ → N ρ ()) :
    WS (bxS b l) (lb1_law K) () [none, some (.v (.ref b)), none, some (.d c.D), some (.d (.int c.pairs)), some (.d (.tuple (cs.map .int))), none, some (.d (.int m)), some (.d (.list (ts.map .int))), some (.d (.int m')), some (.d (.list (us.map .int))), some (.d (.int f)), some (.own old), some (.d (.int (k : Int))), none, none, none] R N := by
  have ht1 := ht.1
  have hu1 := hu.1
  have a1 := at_getI (l := ts) (i := k) (by omega)
  have a2 := at_getI (l := us) (i := k) (by omega)
  have e1 : PyData.list ((flipT ts k).map .int) = .list ((ts.map .int).take k ++ [.int (1 - getI ts k)] ++ (ts.map .int).drop (k + 1)) := by
    unfold flipT
    rw [List.map_append, List.map_append, List.map_take, List.map_drop, List.append_assoc]
    rfl
  have e2 : PyData.list ((flipT us k).map .int) = .list ((us.map .int).take k ++ [.int (1 - getI us k)] ++ (us.map .int).drop (k + 1)) := by
    unfold flipT
    rw [List.map_append, List.map_append, List.map_take, List.map_drop, List.append_assoc]
    rfl
  rw [e1, e2] at hN
  unfold lb1_law
  repeat walk_at "j"
  refine rs_list ?_
  rw [cutD_to (by rw [List.length_map]; omega)]
  repeat walk_at "j"
  refine rd_ixL a1.1 ?_
  repeat walk_at "j"
  refine rd_addL (by rw [List.length_take, List.length_map]; show _ + 1 ≤ _; omega) ?_
  repeat walk_at "j"
  refine rs_list ?_
  rw [show ((k : Int) + 1) = ((k + 1 : Nat) : Int) from by omega, cutD_fro (by rw [List.length_map]; omega)]
  refine rd_addL (by rw [List.length_append, List.length_take, List.length_drop, List.length_map]; show _ + 1 + _ ≤ _; omega) ?_
  refine ⟨by omega, ?_⟩
  repeat walk_at "j"
  refine rs_list ?_
  rw [cutD_to (by rw [List.length_map]; omega)]
  repeat walk_at "j"
  refine rd_ixL a2.1 ?_
  repeat walk_at "j"
  refine rd_addL (by rw [List.length_take, List.length_map]; show _ + 1 ≤ _; omega) ?_
  repeat walk_at "j"
  refine rs_list ?_
  rw [show ((k : Int) + 1) = ((k + 1 : Nat) : Int) from by omega, cutD_fro (by rw [List.length_map]; omega)]
  refine rd_addL (by rw [List.length_append, List.length_take, List.length_drop, List.length_map]; show _ + 1 + _ ≤ _; omega) ?_
  refine ⟨by rw [List.length_append]; show old.length + 1 < _; omega, ?_⟩
  refine hN _ ?_
  repeat constructor
theorem w_lb2_law {K : PySem.W.Frag} {b l : Addr} {c : Cn} {cs ts us os : List Int} {f : Int} {w6 w12 w13 w14 : Option W} (ok : c.ok) (hd : c.deep ≤ 10) (hl : c.looks ≤ 12) (hc : Cs cs) (ho : Ts c os)
    (mL : ∀ ts', Ts c ts' → looksN (c.turn ts) cs ≤ looksN (c.turn ts') cs) (mJ : ∀ ts' f', Ts c ts' → (f' = 0 ∨ f' = 1) → jumpsN (c.turn us) f cs ≤ jumpsN (c.turn ts') f' cs) {N : DEnv → (bxS b l).S → Prop}
    (hN : ∀ ρ, LeE [none, some (.v (.ref b)), none, some (.d c.D), none, some (.d (.tuple (cs.map .int))), none, some (.d (.int (looksN (c.turn ts) cs))), none, some (.d (.int (jumpsN (c.turn us) f cs))), none, none, none, none, none, none, none] ρ → N ρ ()) :
    WS (bxS b l) (lb2_law K) () [none, some (.v (.ref b)), none, some (.d c.D), none, some (.d (.tuple (cs.map .int))), w6, some (.d (.int (looksN (c.turn ts) cs))), none, some (.d (.int (jumpsN (c.turn us) f cs))), none, none, w12, w13, w14, some (.d (.list (os.map .int))), none] (fun x _ => x = .bool true) N := by
  obtain ⟨h1, h2, h3, h4⟩ := c.turn_all os
  unfold lb2_law
  repeat walk_at "j"
  refine ⟨c, os, rfl, ok, hd, hl, ho.1, ho.2, ?_⟩
  repeat walk_at "j"
  refine ⟨c, c.turn os, rfl, ok, hd, hl, h4 ok, by omega, by omega, ?_⟩
  rw [turn_same ok os]
  repeat walk_at "j"
  refine ⟨c.turn os, cs, rfl, h4 ok, by omega, by omega, hc, ?_⟩
  repeat walk_at "j"
  refine ifD (fun h => absurd (mL os ho) (by omega)) (fun _ => ?_)
  repeat walk_at "j"
  refine ⟨c.turn os, 0, cs, rfl, h4 ok, by omega, by omega, .inl rfl, hc, ?_⟩
  repeat walk_at "j"
  refine ifD (fun h => absurd (mJ os 0 ho (.inl rfl)) (by omega)) (fun _ => ?_)
  repeat walk_at "j"
  refine ⟨c.turn os, 1, cs, rfl, h4 ok, by omega, by omega, .inr rfl, hc, ?_⟩
  repeat walk_at "j"
  refine ifD (fun h => absurd (mJ os 1 ho (.inr rfl)) (by omega)) (fun _ => ?_)
  repeat walk_at "j"
  refine hN _ ?_
  repeat constructor
def flips (ts us : List Int) (k : Nat) : List PyData := (List.range k).flatMap fun k => [.list ((flipT ts k).map .int), .list ((flipT us k).map .int)]
theorem flips_len (ts us : List Int) : ∀ k, (flips ts us k).length = 2 * k
  | 0 => rfl
  | k + 1 => by
    have := flips_len ts us k
    unfold flips at *
    rw [List.range_succ, List.flatMap_append, List.length_append, this]
    show 2 * k + 2 = _
    omega
theorem w_lb4_law {K : PySem.W.Frag} {b l : Addr} {c : Cn} {cs ts us : List Int} {f : Int} {some1 : List PyData} (ok : c.ok) (hd : c.deep ≤ 10) (hl : c.looks ≤ 12) (hc : Cs cs) (ht : Ts c ts) (hu : Ts c us) (hs : some1.length = 4 ∧ ∀ x ∈ some1, IsT c x)
    (mL : ∀ ts', Ts c ts' → looksN (c.turn ts) cs ≤ looksN (c.turn ts') cs) (mJ : ∀ ts' f', Ts c ts' → (f' = 0 ∨ f' = 1) → jumpsN (c.turn us) f cs ≤ jumpsN (c.turn ts') f' cs) {N : DEnv → (bxS b l).S → Prop} :
    WS (bxS b l) (lb4_law K) () [none, some (.v (.ref b)), none, some (.d c.D), some (.d (.int c.pairs)), some (.d (.tuple (cs.map .int))), none, some (.d (.int (looksN (c.turn ts) cs))), some (.d (.list (ts.map .int))), some (.d (.int (jumpsN (c.turn us) f cs))), some (.d (.list (us.map .int))), some (.d (.int f)), some (.own some1), none, none, none, none] (fun x _ => x = .bool true) N := by
  have hpl := c.pairs_looks
  unfold lb4_law
  repeat walk_at "j"
  refine ws_for_rangeC (fun k => [none, some (.v (.ref b)), none, some (.d c.D), some (.d (.int c.pairs)), some (.d (.tuple (cs.map .int))), none, some (.d (.int (looksN (c.turn ts) cs))), some (.d (.list (ts.map .int))), some (.d (.int (jumpsN (c.turn us) f cs))), some (.d (.list (us.map .int))), some (.d (.int f)), some (.own (some1 ++ flips ts us k)), none, none, none, none]) ?_
  repeat walk_at "j"
  refine ⟨by omega, by omega, by rw [show flips ts us 0 = [] from rfl, List.append_nil]; repeat constructor, fun k s' hk => ?_, fun s' => ?_⟩
  · have hk : k < c.pairs := by omega
    have hol : (some1 ++ flips ts us k).length ≤ 1000 := by rw [List.length_append, flips_len, hs.1]; omega
    have e : some1 ++ flips ts us (k + 1) = some1 ++ flips ts us k ++ [.list ((flipT ts k).map .int)] ++ [.list ((flipT us k).map .int)] := by
      unfold flips
      rw [List.range_succ, List.flatMap_append, List.append_assoc, List.append_assoc]
      rfl
    rw [e]
    generalize some1 ++ flips ts us k = old at hol ⊢
    refine wg_name ?_
    exact w_lb1_law (by omega) ht hu hk hol fun ρ h => h
  · rw [show ((c.pairs : Int)).toNat = c.pairs from by omega]
    refine ws_pub (j := 12) rfl ?_
    have hall : ∀ x ∈ some1 ++ flips ts us c.pairs, IsT c x := fun x hx => by
      rcases List.mem_append.mp hx with hx | hx
      · exact hs.2 x hx
      · obtain ⟨k, hk, hx⟩ := List.mem_flatMap.mp hx
        have hk := List.mem_range.mp hk
        simp only [List.mem_cons, List.not_mem_nil, or_false] at hx
        rcases hx with rfl | rfl
        · exact ⟨_, flip_Ts ht hk, rfl⟩
        · exact ⟨_, flip_Ts hu hk, rfl⟩
    generalize some1 ++ flips ts us c.pairs = every at hall
    repeat walk_at "j"
    refine ws_for_listC (fun i => [none, some (.v (.ref b)), none, some (.d c.D), none, some (.d (.tuple (cs.map .int))), none, some (.d (.int (looksN (c.turn ts) cs))), none, some (.d (.int (jumpsN (c.turn us) f cs))), none, none, none, none, none, none, none]) ?_
    repeat walk_at "j"
    refine ⟨by repeat constructor, fun i d s' hi => ?_, fun s' => ?_⟩
    · obtain ⟨os, ho, rfl⟩ := hall d (List.mem_of_getElem? hi)
      refine wg_name ?_
      exact w_lb2_law ok hd hl hc ho mL mJ fun ρ h => h
    · repeat walk_at "j"
      rfl
theorem w_lb3_law {K : PySem.W.Frag} {b l : Addr} {c : Cn} {w2 : Option W} {ys : List PyData} (ok : c.ok) (hd : c.deep ≤ 10) (hl : c.looks ≤ 7) (hlen : ys.length = 8) (hp : ∀ y ∈ ys, ∃ i, y = .int i ∧ (0 ≤ i ∧ i ≤ 100)) {N : DEnv → (bxS b l).S → Prop} :
    WS (bxS b l) (lb3_law K) () [none, some (.v (.ref b)), w2, some (.d c.D), some (.d (.int c.pairs)), some (.d (.tuple ys)), none, none, none, none, none, none, none, none, none, none, none] (fun x _ => x = .bool true) N := by
  obtain ⟨cs, rfl, hcs⟩ := ints_of hp
  have hc : Cs cs := ⟨by simpa using hlen, hcs⟩
  have hpl := c.pairs_looks
  obtain ⟨ts, ht, eL, mL⟩ := fewL_is c cs
  obtain ⟨us, f, hu, hf, eJ, mJ⟩ := fewJ_is c cs
  obtain ⟨h1, h2, h3, h4⟩ := c.turn_all ts
  obtain ⟨g1, g2, g3, g4⟩ := c.turn_all us
  refine ws_le (ρ' := [none, some (.v (.ref b)), none, some (.d c.D), some (.d (.int c.pairs)), some (.d (.tuple (cs.map .int))), none, none, none, none, none, none, none, none, none, none, none]) (by repeat constructor) ?_
  unfold lb3_law
  repeat walk_at "j"
  refine ⟨c, cs, rfl, ok, hd, by omega, by omega, hc, ?_⟩
  rw [eL]
  unfold rowL rowF
  repeat walk_at "j"
  unfold lD
  repeat walk_at "j"
  refine ⟨c, cs, rfl, ok, hd, by omega, by omega, hc, ?_⟩
  rw [eJ]
  unfold rowJ1 rowF lD
  repeat walk_at "j"
  refine ⟨c, ts, rfl, ok, hd, by omega, ht.1, ht.2, ?_⟩
  repeat walk_at "j"
  refine ⟨c.turn ts, cs, rfl, h4 ok, by omega, by omega, hc, ?_⟩
  repeat walk_at "j"
  refine ifND (fun h => absurd rfl h) (fun _ => ?_)
  repeat walk_at "j"
  refine ⟨c, us, rfl, ok, hd, by omega, hu.1, hu.2, ?_⟩
  repeat walk_at "j"
  refine ⟨c.turn us, f, cs, rfl, g4 ok, by omega, by omega, hf, hc, ?_⟩
  repeat walk_at "j"
  refine ifND (fun h => absurd rfl h) (fun _ => ?_)
  refine ws_next ?_
  refine ws_seq ?_
  refine ws_ownLcP_range (IsT c) (gin_name (by decide)) (of_decide_eq_true rfl) ?_
  repeat walk_at "j"
  refine ⟨by decide, fun i s' hi => ?_, fun ys s' hlen hq => ?_⟩
  · repeat walk_at "j"
    refine wp_lcP_range (fun y => ∃ i, y = .int i ∧ (i = 0 ∨ i = 1)) (gin_name (by decide)) ?_
    repeat walk_at "j"
    refine ⟨by omega, fun i s' hi => ?_, fun ys s' hlen hp => ?_⟩
    · repeat walk_at "j"
      refine ⟨2, rfl, by decide, by decide, fun r r0 r1 => ?_⟩
      exact ⟨_, rfl, by omega⟩
    · obtain ⟨os, rfl, hos⟩ := ints_of hp
      exact ⟨os, ⟨by simpa using hlen, hos⟩, rfl⟩
  · exact w_lb4_law ok hd (by omega) hc ht hu ⟨hlen, hq⟩ mL mJ
theorem w_law {K : PySem.W.Frag} : ∀ b l, WS (bxS b l) (u_law K) () (initL b n_law) (fun x _ => x = .bool true) (fun _ _ => False) := by
  intro b l
  unfold u_law
  repeat walk_at "j"
  refine ⟨4, rfl, by decide, by decide, fun r r0 r1 => ?_⟩
  repeat walk_at "j"
  obtain ⟨ts, et, hts⟩ := at_things8 r0 r1
  refine rd_ixL et ?_
  repeat walk_at "j"
  refine ⟨7, ts, rfl, by decide, by decide, hts, by decide, fun c hl ok hd => ?_⟩
  repeat walk_at "j"
  refine ws_while (W' := fun n ρ _ => ∃ c : Cn, ρ = [none, some (.v (.ref b)), some (.d (.list (ts.map .int))), some (.d c.D), none, none, none, none, none, none, none, none, none, none, none, none, none] ∧ c.deep = n ∧ c.deep < 30 ∧ c.looks ≤ 7 ∧ c.ok) (m0 := c.deep) ⟨c, rfl, rfl, by omega, by omega, ok⟩ ?_
  rintro n ρ _ ⟨c, rfl, rfl, hd, hl, ok⟩
  repeat walk_at "j"
  refine ⟨c, rfl, hd, ?_⟩
  repeat walk_at "j"
  refine ifD (fun h => ?_) (fun h => ?_)
  · obtain ⟨d, ⟨w, r, e⟩, d1, d2, d3⟩ := first_part (c := c) (by omega)
    rw [e]
    repeat walk_at "j"
    exact ⟨d.deep, d1, d, rfl, rfl, by omega, by omega, d3 ok⟩
  · repeat walk_at "j"
    refine ⟨c, rfl, by omega, ?_⟩
    repeat walk_at "j"
    refine wp_lcP_range (fun y => ∃ i, y = .int i ∧ (0 ≤ i ∧ i ≤ 100)) (gin_name (by decide)) ?_
    repeat walk_at "j"
    refine ⟨by decide, fun i s' hi => ?_, fun ys s' hlen hp => ?_⟩
    · repeat walk_at "j"
      refine ⟨101, rfl, by decide, by decide, fun r r0 r1 => ?_⟩
      repeat walk_at "j"
      refine ⟨4, rfl, by decide, by decide, fun w w0 w1 => ?_⟩
      have : w = 0 ∨ w = 1 ∨ w = 2 ∨ w = 3 := by omega
      rcases this with rfl | rfl | rfl | rfl
      all_goals
        refine rd_ixL rfl ?_
        exact ⟨_, rfl, by omega, by omega⟩
    · repeat walk_at "j"
      exact w_lb3_law ok (by omega) (by omega) hlen hp

theorem ok_law {P : Program} {w : World} {K : PySem.W.Frag} {mg : Str → Option Value} {base : Heap} {f : Addr} {fd : FuncData}  (F : Fun K "law" "law" s_law f fd) (hb : Blt mg) (c__law_begun : Cal P w K mg base 1 "_law_begun" q__law_begun (spBegun K)) (c__law_take : Cal P w K mg base 1 "_law_take" q__law_take (spB P_take)) (c__law_bare : Cal P w K mg base 25 "_law_bare" q__law_bare (spB (P_bare 24))) (c__law_deep : Cal P w K mg base 30 "_law_deep" q__law_deep (spD (P_deep 30))) (c__law_pairs : Cal P w K mg base 30 "_law_pairs" q__law_pairs (spD (P_lpairs 30))) (c_fewest_looks : Cal P w K mg base 33 "fewest_looks" q_fewest_looks (spD P_fewest_looks)) (c_fewest_jumps : Cal P w K mg base 63 "fewest_jumps" q_fewest_jumps (spD P_fewest_jumps)) (c_turned : Cal P w K mg base 32 "turned" q_turned (spD P_turned)) (c_looks : Cal P w K mg base 32 "looks" q_looks (spD P_looks)) (c_jumps : Cal P w K mg base 63 "jumps" q_jumps (spD P_jumps)) (c_like_worth : Cal P w K mg base 32 "like_worth" q_like_worth (spD P_like_worth))  : FnOk P w K mg base CX0 64 f fd q_law (spLaw K) := by
  refine fnLaw F sc_law ⟨rfl, by decide⟩ (u := u_law K) (fun cdv A outer s H E hr => ?_) (w_law )
  have hu64 := hr.units
  have hu := hu_of hr
  exact (pss_cons (ps_set (i := 1) sc_law.nd rfl (Or.inr rfl) (pe_callC c__law_begun (hr.mono (by omega)) rfl (pa_cons (pv 0) pa_nil)))
    (pss_cons (ps_set (i := 2) sc_law.nd rfl (Or.inl rfl) (pe_ix ix_seq (pe_lst (pa_cons (pe_lst (pa_cons pe_int (pa_cons pe_int (pa_cons pe_int (pa_cons pe_int (pa_cons pe_int (pa_cons pe_int (pa_cons pe_int (pa_cons pe_int pa_nil))))))))) (pa_cons (pe_lst (pa_cons pe_int (pa_cons pe_int (pa_cons pe_int (pa_cons pe_int pa_nil))))) pa_nil))) (pe_op op_divU (pe_callC c__law_take (hr.mono (by omega)) rfl (pa_cons (pv 1) (pa_cons pe_int pa_nil))) pe_int) (fun _ _ => rfl)))
    (pss_cons (ps_set (i := 3) sc_law.nd rfl (Or.inl rfl) (pe_callC c__law_bare (hr.mono (by omega)) rfl (pa_cons (pv 1) (pa_cons pe_int (pa_cons (pv 2) pa_nil)))))
    (pss_cons (ps_while PassesOwn.never (pt_cmpR op_gtU (pe_callC c__law_deep (hr.mono (by omega)) rfl (pa_cons (pv 3) pa_nil)) pe_int (nomark _)) (pss_one (ps_set (i := 3) sc_law.nd rfl (Or.inl rfl) (pe_ix ix_seq (pv 3) pe_int (fun _ _ => rfl)))))
    (pss_cons (ps_set (i := 4) sc_law.nd rfl (Or.inr rfl) (pe_callC c__law_pairs (hr.mono (by omega)) rfl (pa_cons (pv 3) pa_nil)))
    (pss_cons (ps_set (i := 5) sc_law.nd rfl (Or.inl rfl) (pe_callTy call_tupU (by rfl) hb.tuple (by decide +kernel) (pa_cons (pe_lc (own := [("_law_thing", 6)]) (by rfl) sc_law.nd (pi_range1 (by rfl) hb.range (pa_cons pe_int pa_nil)) (blkOk_by (own := [("_law_thing", 6)]) (N := n_law) (sc := defScope s_law) (by decide +kernel)) (fun _ _ _ _ _ => (pg_name (i := 6) sc_law.nd rfl (Or.inl rfl))) (fun _ _ _ _ _ => pts_nil) (fun _ _ _ _ _ => (pe_ix ix_seq (pe_lst (pa_cons pe_int (pa_cons pe_int (pa_cons pe_int (pa_cons (pe_callC c__law_take (hr.mono (by omega)) rfl (pa_cons (pv 1) (pa_cons pe_int pa_nil))) pa_nil))))) (pe_callC c__law_take (hr.mono (by omega)) rfl (pa_cons (pv 1) (pa_cons pe_int pa_nil))) (fun _ _ => rfl)))) pa_nil)))
    (pss_cons (ps_asg (pe_callC c_fewest_looks (hr.mono (by omega)) rfl (pa_cons (pv 3) (pa_cons (pv 5) pa_nil))) (pg_tup rfl (pgs_cons (pg_name (i := 7) sc_law.nd rfl (Or.inl rfl)) (pgs_cons (pg_name (i := 8) sc_law.nd rfl (Or.inl rfl)) pgs_nil))))
    (pss_cons (ps_asg (pe_callC c_fewest_jumps (hr.mono (by omega)) rfl (pa_cons (pv 3) (pa_cons (pv 5) pa_nil))) (pg_tup rfl (pgs_cons (pg_name (i := 9) sc_law.nd rfl (Or.inl rfl)) (pgs_cons (pg_name (i := 10) sc_law.nd rfl (Or.inl rfl)) (pgs_cons (pg_name (i := 11) sc_law.nd rfl (Or.inl rfl)) pgs_nil)))))
    (pss_cons (ps_if (PW.pt (pw_or (pt_cmpR (op_neD hu64) (pe_callC c_looks (hr.mono (by omega)) rfl (pa_cons (pe_callC c_turned (hr.mono (by omega)) rfl (pa_cons (pv 3) (pa_cons (pv 8) pa_nil))) (pa_cons (pv 5) pa_nil))) (pv 7) (nomark _)) (pw_or1 (pt_cmpR (op_neD hu64) (pe_callC c_jumps (hr.mono (by omega)) rfl (pa_cons (pe_callC c_turned (hr.mono (by omega)) rfl (pa_cons (pv 3) (pa_cons (pv 10) pa_nil))) (pa_cons (pv 11) (pa_cons (pv 5) pa_nil)))) (pv 9) (nomark _))))) (pss_one (ps_ret pe_bl)) pss_nil)
    (pss_cons (ps_setLc (i := 12) (own := [("_law_turn", 14)]) (by rfl) sc_law.nd rfl rfl (sw_true rfl rfl rfl (by decide +kernel)) (pi_range1 (by rfl) hb.range (pa_cons pe_int pa_nil)) (blkOk_by (own := [("_law_turn", 14)]) (N := n_law) (sc := defScope s_law) (by decide +kernel)) (fun _ _ _ _ _ => (pg_name (i := 14) sc_law.nd rfl (Or.inl rfl))) (fun _ _ _ _ _ => pts_nil) (fun _ _ _ _ _ => (pe_lc (own := [("_law_pair", 13)]) (by rfl) sc_law.nd (pi_range1 (by rfl) hb.range (pa_cons (pv 4) pa_nil)) (blkOk_by (own := [("_law_pair", 13)]) (N := n_law) (sc := { kind := .function, names := [(".0", .local), ("_law_turn", .local), ("range", .globalImplicit), ("_law_box", .cell), ("_law_many", .cell)], isGenerator := false, isCoroutine := false }) (by decide +kernel)) (fun _ _ _ _ _ => (pg_name (i := 13) sc_law.nd rfl (Or.inl rfl))) (fun _ _ _ _ _ => pts_nil) (fun _ _ _ _ _ => (pe_callC c__law_take (hr.mono (by omega)) rfl (pa_cons (pv 1) (pa_cons pe_int pa_nil)))))))
    (pss_cons (ps_for PassesOwn.never rfl (pi_range1 (by rfl) hb.range (pa_cons (pv 4) pa_nil)) (pg_name (i := 13) sc_law.nd rfl (Or.inl rfl)) (pss_cons (ps_expr (pe_bm PySem.F.plainAttrs_list PySem.F.slot_list_append PySem.F.type_list_append mt_append (pv 12) (pa_cons (pe_op op_addU (pe_op op_addU (pe_slice sl_U (pv 8) po_none (po_some (pv 13))) (pe_lst (pa_cons (pe_op op_subU pe_int (pe_ix ix_seq (pv 8) (pv 13) (fun _ _ => rfl))) pa_nil))) (pe_slice sl_U (pv 8) (po_some (pe_op op_addU (pv 13) pe_int)) po_none)) pa_nil)))
    (pss_one (ps_expr (pe_bm PySem.F.plainAttrs_list PySem.F.slot_list_append PySem.F.type_list_append mt_append (pv 12) (pa_cons (pe_op op_addU (pe_op op_addU (pe_slice sl_U (pv 10) po_none (po_some (pv 13))) (pe_lst (pa_cons (pe_op op_subU pe_int (pe_ix ix_seq (pv 10) (pv 13) (fun _ _ => rfl))) pa_nil))) (pe_slice sl_U (pv 10) (po_some (pe_op op_addU (pv 13) pe_int)) po_none)) pa_nil))))))
    (pss_cons (ps_for PassesOwn.never rfl (pi_seq (pv 12)) (pg_name (i := 15) sc_law.nd rfl (Or.inl rfl)) (pss_cons (ps_set (i := 16) sc_law.nd rfl (Or.inl rfl) (pe_callC c_turned (hr.mono (by omega)) rfl (pa_cons (pv 3) (pa_cons (pv 15) pa_nil))))
    (pss_cons (ps_if (PW.pt (pw_or (pt_not (pt_val (pe_callC c_like_worth (hr.mono (by omega)) rfl (pa_cons (pv 3) (pa_cons (pv 16) pa_nil))))) (pw_or1 (pt_cmpR op_ltU (pe_callC c_looks (hr.mono (by omega)) rfl (pa_cons (pv 16) (pa_cons (pv 5) pa_nil))) (pv 7) (nomark _))))) (pss_one (ps_ret pe_bl)) pss_nil)
    (pss_one (ps_if (PW.pt (pw_or (pt_cmpR op_ltU (pe_callC c_jumps (hr.mono (by omega)) rfl (pa_cons (pv 16) (pa_cons pe_int (pa_cons (pv 5) pa_nil)))) (pv 9) (nomark _)) (pw_or1 (pt_cmpR op_ltU (pe_callC c_jumps (hr.mono (by omega)) rfl (pa_cons (pv 16) (pa_cons pe_int (pa_cons (pv 5) pa_nil)))) (pv 9) (nomark _))))) (pss_one (ps_ret pe_bl)) pss_nil)))))
    (pss_one (ps_ret pe_bl))))))))))))))

theorem ktab_sizes {K : PySem.W.Frag} {w : World} {a : Addr} {es : Array DictEntry} {n : Nat} {t1 t2 t3 t4 : Tok} (h1 : K.lookup a = some ⟨.type "dict", none, .dict es n, #[]⟩) (h2 : PySem.W.KeysLit w.params es.toList) (h0 : (a == sysModules) = false)
    (y1 : PySem.W.nsIn K a wLook = some (some (.int 2 t1))) (y2 : PySem.W.nsIn K a wNot = some (some (.int 2 t2))) (y3 : PySem.W.nsIn K a wAnd = some (some (.int 3 t3))) (y4 : PySem.W.nsIn K a wOr = some (some (.int 3 t4)))
    (y5 : PySem.W.nsIn K a wXor = some none) (y6 : PySem.W.nsIn K a wNOT = some none) (y7 : PySem.W.nsIn K a wNil = some none) : KTab K w a sizeW W7 := by
  have x5 : sizeW wXor = none := by decide +kernel
  have x6 : sizeW wNOT = none := by decide +kernel
  have x7 : sizeW wNil = none := by decide +kernel
  refine ⟨⟨h0, es, n, h1, h2⟩, fun s i hs e => ?_, fun s hs e => ?_⟩
  · rcases hs with rfl | rfl | rfl | rfl | rfl | rfl | rfl
    · rw [size_look] at e; cases e; exact ⟨_, y1⟩
    · rw [size_not] at e; cases e; exact ⟨_, y2⟩
    · rw [size_and] at e; cases e; exact ⟨_, y3⟩
    · rw [size_or] at e; cases e; exact ⟨_, y4⟩
    · rw [x5] at e; cases e
    · rw [x6] at e; cases e
    · rw [x7] at e; cases e
  · rcases hs with rfl | rfl | rfl | rfl | rfl | rfl | rfl
    · rw [size_look] at e; cases e
    · rw [size_not] at e; cases e
    · rw [size_and] at e; cases e
    · rw [size_or] at e; cases e
    · exact y5
    · exact y6
    · exact y7

theorem all_mk {l : PySem.W.OpenLaw} {w : World} {K : PySem.W.Frag} {h : Heap} {mg : Str → Option Value} {fa f0 f1 f2 f3 f4 f5 f6 f7 f8 f9 f10 f11 f12 f13 f14 f15 f16 f17 f18 f19 f20 f21 f22 f23 f24 f25 f26 f27 f28 f29 f30 : Addr} (X : K.In h) (G : h.Ns mainGlobals mg) (hfa : mg "law" = some (.ref fa))
    {od0 an0 : Option Addr} {sl0 : Array (Option Value)} {oc0 kV0 dc0 pm0 cd0 ct0 : Value} {od1 an1 : Option Addr} {sl1 : Array (Option Value)} {oc1 kV1 dc1 pm1 cd1 ct1 : Value} {od2 an2 : Option Addr} {sl2 : Array (Option Value)} {oc2 kV2 dc2 pm2 cd2 ct2 : Value} {od3 an3 : Option Addr} {sl3 : Array (Option Value)} {oc3 kV3 dc3 pm3 cd3 ct3 : Value} {od4 an4 : Option Addr} {sl4 : Array (Option Value)} {oc4 kV4 dc4 pm4 cd4 ct4 : Value} {od5 an5 : Option Addr} {sl5 : Array (Option Value)} {oc5 kV5 dc5 pm5 cd5 ct5 : Value} {od6 an6 : Option Addr} {sl6 : Array (Option Value)} {oc6 kV6 dc6 pm6 cd6 ct6 : Value} {od7 an7 : Option Addr} {sl7 : Array (Option Value)} {oc7 kV7 dc7 pm7 cd7 ct7 : Value} {od8 an8 : Option Addr} {sl8 : Array (Option Value)} {oc8 kV8 dc8 pm8 cd8 ct8 : Value} {od9 an9 : Option Addr} {sl9 : Array (Option Value)} {oc9 kV9 dc9 pm9 cd9 ct9 : Value} {od10 an10 : Option Addr} {sl10 : Array (Option Value)} {oc10 kV10 dc10 pm10 cd10 ct10 : Value} {od11 an11 : Option Addr} {sl11 : Array (Option Value)} {oc11 kV11 dc11 pm11 cd11 ct11 : Value} {od12 an12 : Option Addr} {sl12 : Array (Option Value)} {oc12 kV12 dc12 pm12 cd12 ct12 : Value} {od13 an13 : Option Addr} {sl13 : Array (Option Value)} {oc13 kV13 dc13 pm13 cd13 ct13 : Value} {od14 an14 : Option Addr} {sl14 : Array (Option Value)} {oc14 kV14 dc14 pm14 cd14 ct14 : Value} {od15 an15 : Option Addr} {sl15 : Array (Option Value)} {oc15 kV15 dc15 pm15 cd15 ct15 : Value} {od16 an16 : Option Addr} {sl16 : Array (Option Value)} {oc16 kV16 dc16 pm16 cd16 ct16 : Value} {od17 an17 : Option Addr} {sl17 : Array (Option Value)} {oc17 kV17 dc17 pm17 cd17 ct17 : Value} {od18 an18 : Option Addr} {sl18 : Array (Option Value)} {oc18 kV18 dc18 pm18 cd18 ct18 : Value} {od19 an19 : Option Addr} {sl19 : Array (Option Value)} {oc19 kV19 dc19 pm19 cd19 ct19 : Value} {od20 an20 : Option Addr} {sl20 : Array (Option Value)} {oc20 kV20 dc20 pm20 cd20 ct20 : Value} {od21 an21 : Option Addr} {sl21 : Array (Option Value)} {oc21 kV21 dc21 pm21 cd21 ct21 : Value} {od22 an22 : Option Addr} {sl22 : Array (Option Value)} {oc22 kV22 dc22 pm22 cd22 ct22 : Value} {od23 an23 : Option Addr} {sl23 : Array (Option Value)} {oc23 kV23 dc23 pm23 cd23 ct23 : Value} {od24 an24 : Option Addr} {sl24 : Array (Option Value)} {oc24 kV24 dc24 pm24 cd24 ct24 : Value} {od25 an25 : Option Addr} {sl25 : Array (Option Value)} {oc25 kV25 dc25 pm25 cd25 ct25 : Value} {od26 an26 : Option Addr} {sl26 : Array (Option Value)} {oc26 kV26 dc26 pm26 cd26 ct26 : Value} {od27 an27 : Option Addr} {sl27 : Array (Option Value)} {oc27 kV27 dc27 pm27 cd27 ct27 : Value} {od28 an28 : Option Addr} {sl28 : Array (Option Value)} {oc28 kV28 dc28 pm28 cd28 ct28 : Value} {od29 an29 : Option Addr} {sl29 : Array (Option Value)} {oc29 kV29 dc29 pm29 cd29 ct29 : Value} {od30 an30 : Option Addr} {sl30 : Array (Option Value)} {oc30 kV30 dc30 pm30 cd30 ct30 : Value} {tk_MOST_WITHIN : Tok} {a_SIZES : Addr} {es_S : Array DictEntry} {n_S : Nat} {ts1 ts2 ts3 ts4 : Tok} {tk_THINGS : Tok} {a_PAIRS : Addr} {dd_P : Option Addr} {n_P : Nat} {sl_P : Array (Option Value)} {tp1 tp2 : Tok} {tk_MOST_LOOKS : Tok} {tk_HUNDRED : Tok} {tk_MOST_PAIRS : Tok}
    (a0 : PySem.W.nsIn K mainGlobals "is_condition" = some (some (.ref f0)))
    (l0 : K.lookup f0 = some ⟨oc0, od0, .func (PySem.W.fnOf "is_condition" "is_condition" (defArgs s_is_condition) (defBody s_is_condition) (defScope s_is_condition) .none kV0 dc0 pm0 an0 cd0 ct0), sl0⟩)
    (c0 : PySem.W.codeIn K cd0 "is_condition" = true)
    (k0 : PySem.W.keepIn K (.ref f0) = true)
    (a1 : PySem.W.nsIn K mainGlobals "looks_in" = some (some (.ref f1)))
    (l1 : K.lookup f1 = some ⟨oc1, od1, .func (PySem.W.fnOf "looks_in" "looks_in" (defArgs s_looks_in) (defBody s_looks_in) (defScope s_looks_in) .none kV1 dc1 pm1 an1 cd1 ct1), sl1⟩)
    (c1 : PySem.W.codeIn K cd1 "looks_in" = true)
    (k1 : PySem.W.keepIn K (.ref f1) = true)
    (a2 : PySem.W.nsIn K mainGlobals "pairs_in" = some (some (.ref f2)))
    (l2 : K.lookup f2 = some ⟨oc2, od2, .func (PySem.W.fnOf "pairs_in" "pairs_in" (defArgs s_pairs_in) (defBody s_pairs_in) (defScope s_pairs_in) .none kV2 dc2 pm2 an2 cd2 ct2), sl2⟩)
    (c2 : PySem.W.codeIn K cd2 "pairs_in" = true)
    (k2 : PySem.W.keepIn K (.ref f2) = true)
    (a3 : PySem.W.nsIn K mainGlobals "need_condition" = some (some (.ref f3)))
    (l3 : K.lookup f3 = some ⟨oc3, od3, .func (PySem.W.fnOf "need_condition" "need_condition" (defArgs s_need_condition) (defBody s_need_condition) (defScope s_need_condition) .none kV3 dc3 pm3 an3 cd3 ct3), sl3⟩)
    (c3 : PySem.W.codeIn K cd3 "need_condition" = true)
    (k3 : PySem.W.keepIn K (.ref f3) = true)
    (a4 : PySem.W.nsIn K mainGlobals "turned_by" = some (some (.ref f4)))
    (l4 : K.lookup f4 = some ⟨oc4, od4, .func (PySem.W.fnOf "turned_by" "turned_by" (defArgs s_turned_by) (defBody s_turned_by) (defScope s_turned_by) .none kV4 dc4 pm4 an4 cd4 ct4), sl4⟩)
    (c4 : PySem.W.codeIn K cd4 "turned_by" = true)
    (k4 : PySem.W.keepIn K (.ref f4) = true)
    (a5 : PySem.W.nsIn K mainGlobals "turned" = some (some (.ref f5)))
    (l5 : K.lookup f5 = some ⟨oc5, od5, .func (PySem.W.fnOf "turned" "turned" (defArgs s_turned) (defBody s_turned) (defScope s_turned) .none kV5 dc5 pm5 an5 cd5 ct5), sl5⟩)
    (c5 : PySem.W.codeIn K cd5 "turned" = true)
    (k5 : PySem.W.keepIn K (.ref f5) = true)
    (a6 : PySem.W.nsIn K mainGlobals "gone" = some (some (.ref f6)))
    (l6 : K.lookup f6 = some ⟨oc6, od6, .func (PySem.W.fnOf "gone" "gone" (defArgs s_gone) (defBody s_gone) (defScope s_gone) .none kV6 dc6 pm6 an6 cd6 ct6), sl6⟩)
    (c6 : PySem.W.codeIn K cd6 "gone" = true)
    (k6 : PySem.W.keepIn K (.ref f6) = true)
    (a7 : PySem.W.nsIn K mainGlobals "told_by" = some (some (.ref f7)))
    (l7 : K.lookup f7 = some ⟨oc7, od7, .func (PySem.W.fnOf "told_by" "told_by" (defArgs s_told_by) (defBody s_told_by) (defScope s_told_by) .none kV7 dc7 pm7 an7 cd7 ct7), sl7⟩)
    (c7 : PySem.W.codeIn K cd7 "told_by" = true)
    (k7 : PySem.W.keepIn K (.ref f7) = true)
    (a8 : PySem.W.nsIn K mainGlobals "all_worths" = some (some (.ref f8)))
    (l8 : K.lookup f8 = some ⟨oc8, od8, .func (PySem.W.fnOf "all_worths" "all_worths" (defArgs s_all_worths) (defBody s_all_worths) (defScope s_all_worths) .none kV8 dc8 pm8 an8 cd8 ct8), sl8⟩)
    (c8 : PySem.W.codeIn K cd8 "all_worths" = true)
    (k8 : PySem.W.keepIn K (.ref f8) = true)
    (a9 : PySem.W.nsIn K mainGlobals "need_end" = some (some (.ref f9)))
    (l9 : K.lookup f9 = some ⟨oc9, od9, .func (PySem.W.fnOf "need_end" "need_end" (defArgs s_need_end) (defBody s_need_end) (defScope s_need_end) .none kV9 dc9 pm9 an9 cd9 ct9), sl9⟩)
    (c9 : PySem.W.codeIn K cd9 "need_end" = true)
    (k9 : PySem.W.keepIn K (.ref f9) = true)
    (a10 : PySem.W.nsIn K mainGlobals "rows_of" = some (some (.ref f10)))
    (l10 : K.lookup f10 = some ⟨oc10, od10, .func (PySem.W.fnOf "rows_of" "rows_of" (defArgs s_rows_of) (defBody s_rows_of) (defScope s_rows_of) .none kV10 dc10 pm10 an10 cd10 ct10), sl10⟩)
    (c10 : PySem.W.codeIn K cd10 "rows_of" = true)
    (k10 : PySem.W.keepIn K (.ref f10) = true)
    (a11 : PySem.W.nsIn K mainGlobals "code_of" = some (some (.ref f11)))
    (l11 : K.lookup f11 = some ⟨oc11, od11, .func (PySem.W.fnOf "code_of" "code_of" (defArgs s_code_of) (defBody s_code_of) (defScope s_code_of) .none kV11 dc11 pm11 an11 cd11 ct11), sl11⟩)
    (c11 : PySem.W.codeIn K cd11 "code_of" = true)
    (k11 : PySem.W.keepIn K (.ref f11) = true)
    (a12 : PySem.W.nsIn K mainGlobals "run_by" = some (some (.ref f12)))
    (l12 : K.lookup f12 = some ⟨oc12, od12, .func (PySem.W.fnOf "run_by" "run_by" (defArgs s_run_by) (defBody s_run_by) (defScope s_run_by) .none kV12 dc12 pm12 an12 cd12 ct12), sl12⟩)
    (c12 : PySem.W.codeIn K cd12 "run_by" = true)
    (k12 : PySem.W.keepIn K (.ref f12) = true)
    (a13 : PySem.W.nsIn K mainGlobals "need_chances" = some (some (.ref f13)))
    (l13 : K.lookup f13 = some ⟨oc13, od13, .func (PySem.W.fnOf "need_chances" "need_chances" (defArgs s_need_chances) (defBody s_need_chances) (defScope s_need_chances) .none kV13 dc13 pm13 an13 cd13 ct13), sl13⟩)
    (c13 : PySem.W.codeIn K cd13 "need_chances" = true)
    (k13 : PySem.W.keepIn K (.ref f13) = true)
    (a14 : PySem.W.nsIn K mainGlobals "weights_of" = some (some (.ref f14)))
    (l14 : K.lookup f14 = some ⟨oc14, od14, .func (PySem.W.fnOf "weights_of" "weights_of" (defArgs s_weights_of) (defBody s_weights_of) (defScope s_weights_of) .none kV14 dc14 pm14 an14 cd14 ct14), sl14⟩)
    (c14 : PySem.W.codeIn K cd14 "weights_of" = true)
    (k14 : PySem.W.keepIn K (.ref f14) = true)
    (a15 : PySem.W.nsIn K mainGlobals "looks_by" = some (some (.ref f15)))
    (l15 : K.lookup f15 = some ⟨oc15, od15, .func (PySem.W.fnOf "looks_by" "looks_by" (defArgs s_looks_by) (defBody s_looks_by) (defScope s_looks_by) .none kV15 dc15 pm15 an15 cd15 ct15), sl15⟩)
    (c15 : PySem.W.codeIn K cd15 "looks_by" = true)
    (k15 : PySem.W.keepIn K (.ref f15) = true)
    (a16 : PySem.W.nsIn K mainGlobals "jumps_by" = some (some (.ref f16)))
    (l16 : K.lookup f16 = some ⟨oc16, od16, .func (PySem.W.fnOf "jumps_by" "jumps_by" (defArgs s_jumps_by) (defBody s_jumps_by) (defScope s_jumps_by) .none kV16 dc16 pm16 an16 cd16 ct16), sl16⟩)
    (c16 : PySem.W.codeIn K cd16 "jumps_by" = true)
    (k16 : PySem.W.keepIn K (.ref f16) = true)
    (a17 : PySem.W.nsIn K mainGlobals "looks" = some (some (.ref f17)))
    (l17 : K.lookup f17 = some ⟨oc17, od17, .func (PySem.W.fnOf "looks" "looks" (defArgs s_looks) (defBody s_looks) (defScope s_looks) .none kV17 dc17 pm17 an17 cd17 ct17), sl17⟩)
    (c17 : PySem.W.codeIn K cd17 "looks" = true)
    (k17 : PySem.W.keepIn K (.ref f17) = true)
    (a18 : PySem.W.nsIn K mainGlobals "jumps" = some (some (.ref f18)))
    (l18 : K.lookup f18 = some ⟨oc18, od18, .func (PySem.W.fnOf "jumps" "jumps" (defArgs s_jumps) (defBody s_jumps) (defScope s_jumps) .none kV18 dc18 pm18 an18 cd18 ct18), sl18⟩)
    (c18 : PySem.W.codeIn K cd18 "jumps" = true)
    (k18 : PySem.W.keepIn K (.ref f18) = true)
    (a19 : PySem.W.nsIn K mainGlobals "all_turns" = some (some (.ref f19)))
    (l19 : K.lookup f19 = some ⟨oc19, od19, .func (PySem.W.fnOf "all_turns" "all_turns" (defArgs s_all_turns) (defBody s_all_turns) (defScope s_all_turns) .none kV19 dc19 pm19 an19 cd19 ct19), sl19⟩)
    (c19 : PySem.W.codeIn K cd19 "all_turns" = true)
    (k19 : PySem.W.keepIn K (.ref f19) = true)
    (a20 : PySem.W.nsIn K mainGlobals "need_few" = some (some (.ref f20)))
    (l20 : K.lookup f20 = some ⟨oc20, od20, .func (PySem.W.fnOf "need_few" "need_few" (defArgs s_need_few) (defBody s_need_few) (defScope s_need_few) .none kV20 dc20 pm20 an20 cd20 ct20), sl20⟩)
    (c20 : PySem.W.codeIn K cd20 "need_few" = true)
    (k20 : PySem.W.keepIn K (.ref f20) = true)
    (a21 : PySem.W.nsIn K mainGlobals "fewest_looks" = some (some (.ref f21)))
    (l21 : K.lookup f21 = some ⟨oc21, od21, .func (PySem.W.fnOf "fewest_looks" "fewest_looks" (defArgs s_fewest_looks) (defBody s_fewest_looks) (defScope s_fewest_looks) .none kV21 dc21 pm21 an21 cd21 ct21), sl21⟩)
    (c21 : PySem.W.codeIn K cd21 "fewest_looks" = true)
    (k21 : PySem.W.keepIn K (.ref f21) = true)
    (a22 : PySem.W.nsIn K mainGlobals "fewest_jumps" = some (some (.ref f22)))
    (l22 : K.lookup f22 = some ⟨oc22, od22, .func (PySem.W.fnOf "fewest_jumps" "fewest_jumps" (defArgs s_fewest_jumps) (defBody s_fewest_jumps) (defScope s_fewest_jumps) .none kV22 dc22 pm22 an22 cd22 ct22), sl22⟩)
    (c22 : PySem.W.codeIn K cd22 "fewest_jumps" = true)
    (k22 : PySem.W.keepIn K (.ref f22) = true)
    (a23 : PySem.W.nsIn K mainGlobals "like_worth" = some (some (.ref f23)))
    (l23 : K.lookup f23 = some ⟨oc23, od23, .func (PySem.W.fnOf "like_worth" "like_worth" (defArgs s_like_worth) (defBody s_like_worth) (defScope s_like_worth) .none kV23 dc23 pm23 an23 cd23 ct23), sl23⟩)
    (c23 : PySem.W.codeIn K cd23 "like_worth" = true)
    (k23 : PySem.W.keepIn K (.ref f23) = true)
    (a24 : PySem.W.nsIn K mainGlobals "_law_begun" = some (some (.ref f24)))
    (l24 : K.lookup f24 = some ⟨oc24, od24, .func (PySem.W.fnOf "_law_begun" "_law_begun" (defArgs s__law_begun) (defBody s__law_begun) (defScope s__law_begun) .none kV24 dc24 pm24 an24 cd24 ct24), sl24⟩)
    (c24 : PySem.W.codeIn K cd24 "_law_begun" = true)
    (k24 : PySem.W.keepIn K (.ref f24) = true)
    (a25 : PySem.W.nsIn K mainGlobals "_law_take" = some (some (.ref f25)))
    (l25 : K.lookup f25 = some ⟨oc25, od25, .func (PySem.W.fnOf "_law_take" "_law_take" (defArgs s__law_take) (defBody s__law_take) (defScope s__law_take) .none kV25 dc25 pm25 an25 cd25 ct25), sl25⟩)
    (c25 : PySem.W.codeIn K cd25 "_law_take" = true)
    (k25 : PySem.W.keepIn K (.ref f25) = true)
    (a26 : PySem.W.nsIn K mainGlobals "_law_part" = some (some (.ref f26)))
    (l26 : K.lookup f26 = some ⟨oc26, od26, .func (PySem.W.fnOf "_law_part" "_law_part" (defArgs s__law_part) (defBody s__law_part) (defScope s__law_part) .none kV26 dc26 pm26 an26 cd26 ct26), sl26⟩)
    (c26 : PySem.W.codeIn K cd26 "_law_part" = true)
    (k26 : PySem.W.keepIn K (.ref f26) = true)
    (a27 : PySem.W.nsIn K mainGlobals "_law_bare" = some (some (.ref f27)))
    (l27 : K.lookup f27 = some ⟨oc27, od27, .func (PySem.W.fnOf "_law_bare" "_law_bare" (defArgs s__law_bare) (defBody s__law_bare) (defScope s__law_bare) .none kV27 dc27 pm27 an27 cd27 ct27), sl27⟩)
    (c27 : PySem.W.codeIn K cd27 "_law_bare" = true)
    (k27 : PySem.W.keepIn K (.ref f27) = true)
    (a28 : PySem.W.nsIn K mainGlobals "_law_deep" = some (some (.ref f28)))
    (l28 : K.lookup f28 = some ⟨oc28, od28, .func (PySem.W.fnOf "_law_deep" "_law_deep" (defArgs s__law_deep) (defBody s__law_deep) (defScope s__law_deep) .none kV28 dc28 pm28 an28 cd28 ct28), sl28⟩)
    (c28 : PySem.W.codeIn K cd28 "_law_deep" = true)
    (k28 : PySem.W.keepIn K (.ref f28) = true)
    (a29 : PySem.W.nsIn K mainGlobals "_law_pairs" = some (some (.ref f29)))
    (l29 : K.lookup f29 = some ⟨oc29, od29, .func (PySem.W.fnOf "_law_pairs" "_law_pairs" (defArgs s__law_pairs) (defBody s__law_pairs) (defScope s__law_pairs) .none kV29 dc29 pm29 an29 cd29 ct29), sl29⟩)
    (c29 : PySem.W.codeIn K cd29 "_law_pairs" = true)
    (k29 : PySem.W.keepIn K (.ref f29) = true)
    (a30 : PySem.W.nsIn K mainGlobals "law" = some (some (.ref f30)))
    (l30 : K.lookup f30 = some ⟨oc30, od30, .func (PySem.W.fnOf "law" "law" (defArgs s_law) (defBody s_law) (defScope s_law) .none kV30 dc30 pm30 an30 cd30 ct30), sl30⟩)
    (c30 : PySem.W.codeIn K cd30 "law" = true)
    (k30 : PySem.W.keepIn K (.ref f30) = true)
    (g_MOST_WITHIN : PySem.W.nsIn K mainGlobals "MOST_WITHIN" = some (some (.int 10 tk_MOST_WITHIN)))
    (g_SIZES : PySem.W.nsIn K mainGlobals "SIZES" = some (some (.ref a_SIZES)))
    (y1 : K.lookup a_SIZES = some ⟨.type "dict", none, .dict es_S n_S, #[]⟩)
    (y2 : PySem.W.KeysLit w.params es_S.toList)
    (y3 : PySem.W.nsIn K a_SIZES "look" = some (some (.int 2 ts1)))
    (y4 : PySem.W.nsIn K a_SIZES "not" = some (some (.int 2 ts2)))
    (y5 : PySem.W.nsIn K a_SIZES "and" = some (some (.int 3 ts3)))
    (y6 : PySem.W.nsIn K a_SIZES "or" = some (some (.int 3 ts4)))
    (y7 : PySem.W.nsIn K a_SIZES "xor" = some none)
    (y8 : PySem.W.nsIn K a_SIZES "Not" = some none)
    (y9 : PySem.W.nsIn K a_SIZES "" = some none)
    (y10 : (a_SIZES == sysModules) = false)
    (g_THINGS : PySem.W.nsIn K mainGlobals "THINGS" = some (some (.int 8 tk_THINGS)))
    (g_PAIRS : PySem.W.nsIn K mainGlobals "PAIRS" = some (some (.ref a_PAIRS)))
    (yp : K.lookup a_PAIRS = some ⟨.type "tuple", dd_P, .seq #[.str "and" tp1, .str "or" tp2] n_P, sl_P⟩)
    (g_MOST_LOOKS : PySem.W.nsIn K mainGlobals "MOST_LOOKS" = some (some (.int 12 tk_MOST_LOOKS)))
    (g_HUNDRED : PySem.W.nsIn K mainGlobals "HUNDRED" = some (some (.int 100 tk_HUNDRED)))
    (g_MOST_PAIRS : PySem.W.nsIn K mainGlobals "MOST_PAIRS" = some (some (.int 6 tk_MOST_PAIRS)))
    (z_range : PySem.W.nsIn K mainGlobals "range" = some none)
    (z_isinstance : PySem.W.nsIn K mainGlobals "isinstance" = some none)
    (z_len : PySem.W.nsIn K mainGlobals "len" = some none)
    (z_int : PySem.W.nsIn K mainGlobals "int" = some none)
    (z_bool : PySem.W.nsIn K mainGlobals "bool" = some none)
    (z_str : PySem.W.nsIn K mainGlobals "str" = some none)
    (z_tuple : PySem.W.nsIn K mainGlobals "tuple" = some none)
    (z_list : PySem.W.nsIn K mainGlobals "list" = some none)
    (z_sum : PySem.W.nsIn K mainGlobals "sum" = some none)
    (z_max : PySem.W.nsIn K mainGlobals "max" = some none)
    (z_min : PySem.W.nsIn K mainGlobals "min" = some none)
    (z_all : PySem.W.nsIn K mainGlobals "all" = some none)
    (z_sorted : PySem.W.nsIn K mainGlobals "sorted" = some none)
    (z_enumerate : PySem.W.nsIn K mainGlobals "enumerate" = some none) :
    ∃ fd : FuncData, (∀ (s : Shared) (v : Value), BindsTo s fd ⟨[v], []⟩ [("_law_script", v)]) ∧ ∀ base : Heap, K.In base → base.Ns mainGlobals mg → FnOk l.prog w K mg base CX0 64 fa fd q_law (spLaw K) := by
  have hb : Blt mg := ⟨PySem.W.mg_none_of X G z_range, PySem.W.mg_none_of X G z_isinstance, PySem.W.mg_none_of X G z_len, PySem.W.mg_none_of X G z_int, PySem.W.mg_none_of X G z_bool, PySem.W.mg_none_of X G z_str, PySem.W.mg_none_of X G z_tuple, PySem.W.mg_none_of X G z_list, PySem.W.mg_none_of X G z_sum, PySem.W.mg_none_of X G z_max, PySem.W.mg_none_of X G z_min, PySem.W.mg_none_of X G z_all, PySem.W.mg_none_of X G z_sorted, PySem.W.mg_none_of X G z_enumerate⟩
  have hc_MOST_WITHIN : ∃ t, mg "MOST_WITHIN" = some (.int 10 t) := ⟨_, PySem.W.mg_of X G g_MOST_WITHIN⟩
  have hc_SIZES : mg "SIZES" = some (.ref a_SIZES) := PySem.W.mg_of X G g_SIZES
  have kt : KTab K w a_SIZES sizeW W7 := ktab_sizes y1 y2 y10 y3 y4 y5 y6 y7 y8 y9
  have hc_THINGS : ∃ t, mg "THINGS" = some (.int 8 t) := ⟨_, PySem.W.mg_of X G g_THINGS⟩
  have hc_PAIRS : mg "PAIRS" = some (.ref a_PAIRS) := PySem.W.mg_of X G g_PAIRS
  have kp : KTup K a_PAIRS [.str wAnd, .str wOr] := ⟨_, _, _, yp, rfl, rfl, Nat.le_of_ble_eq_true rfl, .cons ⟨_, rfl⟩ (.cons ⟨_, rfl⟩ .nil)⟩
  have hc_MOST_LOOKS : ∃ t, mg "MOST_LOOKS" = some (.int 12 t) := ⟨_, PySem.W.mg_of X G g_MOST_LOOKS⟩
  have hc_HUNDRED : ∃ t, mg "HUNDRED" = some (.int 100 t) := ⟨_, PySem.W.mg_of X G g_HUNDRED⟩
  have hc_MOST_PAIRS : ∃ t, mg "MOST_PAIRS" = some (.int 6 t) := ⟨_, PySem.W.mg_of X G g_MOST_PAIRS⟩
  have e := hfa.symm.trans (PySem.W.mg_of X G a30)
  cases e
  have F_is_condition := fun_mk (st := s_is_condition) l0 c0 k0
  have B_is_condition := F_is_condition.binds (ps := q_is_condition) fun _ _ _ _ _ _ us hl => match us, hl with | [_, _], _ => rfl
  have m_is_condition := PySem.W.mg_of X G a0
  have F_looks_in := fun_mk (st := s_looks_in) l1 c1 k1
  have B_looks_in := F_looks_in.binds (ps := q_looks_in) fun _ _ _ _ _ _ us hl => match us, hl with | [_], _ => rfl
  have m_looks_in := PySem.W.mg_of X G a1
  have F_pairs_in := fun_mk (st := s_pairs_in) l2 c2 k2
  have B_pairs_in := F_pairs_in.binds (ps := q_pairs_in) fun _ _ _ _ _ _ us hl => match us, hl with | [_], _ => rfl
  have m_pairs_in := PySem.W.mg_of X G a2
  have F_need_condition := fun_mk (st := s_need_condition) l3 c3 k3
  have B_need_condition := F_need_condition.binds (ps := q_need_condition) fun _ _ _ _ _ _ us hl => match us, hl with | [_], _ => rfl
  have m_need_condition := PySem.W.mg_of X G a3
  have F_turned_by := fun_mk (st := s_turned_by) l4 c4 k4
  have B_turned_by := F_turned_by.binds (ps := q_turned_by) fun _ _ _ _ _ _ us hl => match us, hl with | [_, _], _ => rfl
  have m_turned_by := PySem.W.mg_of X G a4
  have F_turned := fun_mk (st := s_turned) l5 c5 k5
  have B_turned := F_turned.binds (ps := q_turned) fun _ _ _ _ _ _ us hl => match us, hl with | [_, _], _ => rfl
  have m_turned := PySem.W.mg_of X G a5
  have F_gone := fun_mk (st := s_gone) l6 c6 k6
  have B_gone := F_gone.binds (ps := q_gone) fun _ _ _ _ _ _ us hl => match us, hl with | [_, _, _], _ => rfl
  have m_gone := PySem.W.mg_of X G a6
  have F_told_by := fun_mk (st := s_told_by) l7 c7 k7
  have B_told_by := F_told_by.binds (ps := q_told_by) fun _ _ _ _ _ _ us hl => match us, hl with | [_, _], _ => rfl
  have m_told_by := PySem.W.mg_of X G a7
  have F_all_worths := fun_mk (st := s_all_worths) l8 c8 k8
  have B_all_worths := F_all_worths.binds (ps := q_all_worths) fun _ _ _ _ _ _ us hl => match us, hl with | [], _ => rfl
  have m_all_worths := PySem.W.mg_of X G a8
  have F_need_end := fun_mk (st := s_need_end) l9 c9 k9
  have B_need_end := F_need_end.binds (ps := q_need_end) fun _ _ _ _ _ _ us hl => match us, hl with | [_], _ => rfl
  have m_need_end := PySem.W.mg_of X G a9
  have F_rows_of := fun_mk (st := s_rows_of) l10 c10 k10
  have B_rows_of := F_rows_of.binds (ps := q_rows_of) fun _ _ _ _ _ _ us hl => match us, hl with | [_, _, _, _], _ => rfl
  have m_rows_of := PySem.W.mg_of X G a10
  have F_code_of := fun_mk (st := s_code_of) l11 c11 k11
  have B_code_of := F_code_of.binds (ps := q_code_of) fun _ _ _ _ _ _ us hl => match us, hl with | [_, _], _ => rfl
  have m_code_of := PySem.W.mg_of X G a11
  have F_run_by := fun_mk (st := s_run_by) l12 c12 k12
  have B_run_by := F_run_by.binds (ps := q_run_by) fun _ _ _ _ _ _ us hl => match us, hl with | [_, _], _ => rfl
  have m_run_by := PySem.W.mg_of X G a12
  have F_need_chances := fun_mk (st := s_need_chances) l13 c13 k13
  have B_need_chances := F_need_chances.binds (ps := q_need_chances) fun _ _ _ _ _ _ us hl => match us, hl with | [_], _ => rfl
  have m_need_chances := PySem.W.mg_of X G a13
  have F_weights_of := fun_mk (st := s_weights_of) l14 c14 k14
  have B_weights_of := F_weights_of.binds (ps := q_weights_of) fun _ _ _ _ _ _ us hl => match us, hl with | [_], _ => rfl
  have m_weights_of := PySem.W.mg_of X G a14
  have F_looks_by := fun_mk (st := s_looks_by) l15 c15 k15
  have B_looks_by := F_looks_by.binds (ps := q_looks_by) fun _ _ _ _ _ _ us hl => match us, hl with | [_, _], _ => rfl
  have m_looks_by := PySem.W.mg_of X G a15
  have F_jumps_by := fun_mk (st := s_jumps_by) l16 c16 k16
  have B_jumps_by := F_jumps_by.binds (ps := q_jumps_by) fun _ _ _ _ _ _ us hl => match us, hl with | [_, _, _], _ => rfl
  have m_jumps_by := PySem.W.mg_of X G a16
  have F_looks := fun_mk (st := s_looks) l17 c17 k17
  have B_looks := F_looks.binds (ps := q_looks) fun _ _ _ _ _ _ us hl => match us, hl with | [_, _], _ => rfl
  have m_looks := PySem.W.mg_of X G a17
  have F_jumps := fun_mk (st := s_jumps) l18 c18 k18
  have B_jumps := F_jumps.binds (ps := q_jumps) fun _ _ _ _ _ _ us hl => match us, hl with | [_, _, _], _ => rfl
  have m_jumps := PySem.W.mg_of X G a18
  have F_all_turns := fun_mk (st := s_all_turns) l19 c19 k19
  have B_all_turns := F_all_turns.binds (ps := q_all_turns) fun _ _ _ _ _ _ us hl => match us, hl with | [_], _ => rfl
  have m_all_turns := PySem.W.mg_of X G a19
  have F_need_few := fun_mk (st := s_need_few) l20 c20 k20
  have B_need_few := F_need_few.binds (ps := q_need_few) fun _ _ _ _ _ _ us hl => match us, hl with | [_, _], _ => rfl
  have m_need_few := PySem.W.mg_of X G a20
  have F_fewest_looks := fun_mk (st := s_fewest_looks) l21 c21 k21
  have B_fewest_looks := F_fewest_looks.binds (ps := q_fewest_looks) fun _ _ _ _ _ _ us hl => match us, hl with | [_, _], _ => rfl
  have m_fewest_looks := PySem.W.mg_of X G a21
  have F_fewest_jumps := fun_mk (st := s_fewest_jumps) l22 c22 k22
  have B_fewest_jumps := F_fewest_jumps.binds (ps := q_fewest_jumps) fun _ _ _ _ _ _ us hl => match us, hl with | [_, _], _ => rfl
  have m_fewest_jumps := PySem.W.mg_of X G a22
  have F_like_worth := fun_mk (st := s_like_worth) l23 c23 k23
  have B_like_worth := F_like_worth.binds (ps := q_like_worth) fun _ _ _ _ _ _ us hl => match us, hl with | [_, _], _ => rfl
  have m_like_worth := PySem.W.mg_of X G a23
  have F__law_begun := fun_mk (st := s__law_begun) l24 c24 k24
  have B__law_begun := F__law_begun.binds (ps := q__law_begun) fun _ _ _ _ _ _ us hl => match us, hl with | [_], _ => rfl
  have m__law_begun := PySem.W.mg_of X G a24
  have F__law_take := fun_mk (st := s__law_take) l25 c25 k25
  have B__law_take := F__law_take.binds (ps := q__law_take) fun _ _ _ _ _ _ us hl => match us, hl with | [_, _], _ => rfl
  have m__law_take := PySem.W.mg_of X G a25
  have F__law_part := fun_mk (st := s__law_part) l26 c26 k26
  have B__law_part := F__law_part.binds (ps := q__law_part) fun _ _ _ _ _ _ us hl => match us, hl with | [_, _, _], _ => rfl
  have m__law_part := PySem.W.mg_of X G a26
  have F__law_bare := fun_mk (st := s__law_bare) l27 c27 k27
  have B__law_bare := F__law_bare.binds (ps := q__law_bare) fun _ _ _ _ _ _ us hl => match us, hl with | [_, _, _], _ => rfl
  have m__law_bare := PySem.W.mg_of X G a27
  have F__law_deep := fun_mk (st := s__law_deep) l28 c28 k28
  have B__law_deep := F__law_deep.binds (ps := q__law_deep) fun _ _ _ _ _ _ us hl => match us, hl with | [_], _ => rfl
  have m__law_deep := PySem.W.mg_of X G a28
  have F__law_pairs := fun_mk (st := s__law_pairs) l29 c29 k29
  have B__law_pairs := F__law_pairs.binds (ps := q__law_pairs) fun _ _ _ _ _ _ us hl => match us, hl with | [_], _ => rfl
  have m__law_pairs := PySem.W.mg_of X G a29
  have F_law := fun_mk (st := s_law) l30 c30 k30
  refine ⟨PySem.W.fnOf "law" "law" (defArgs s_law) (defBody s_law) (defScope s_law) .none kV30 dc30 pm30 an30 cd30 ct30, fun s v => .of_eq rfl, fun base _ _ => ?_⟩
  have all := all_is_condition (P := l.prog) (w := w) (base := base) F_is_condition m_is_condition B_is_condition hb hc_MOST_WITHIN hc_SIZES hc_THINGS kt 13
  have c_is_condition := all
  have all := all_looks_in (P := l.prog) (w := w) (base := base) F_looks_in m_looks_in B_looks_in hb  30
  have c_looks_in := all
  have all := all_pairs_in (P := l.prog) (w := w) (base := base) F_pairs_in m_pairs_in B_pairs_in hb hc_PAIRS kp 30
  have c_pairs_in := all
  have c_need_condition : Cal l.prog w K mg base 31 "need_condition" q_need_condition (spD P_need_condition) := ⟨_, _, m_need_condition, F_need_condition.kp, B_need_condition, ok_need_condition (P := l.prog) (w := w) (base := base) F_need_condition hb hc_MOST_LOOKS c_is_condition c_looks_in⟩
  have all := all_turned_by (P := l.prog) (w := w) (base := base) F_turned_by m_turned_by B_turned_by hb  30
  have c_turned_by := all
  have c_turned : Cal l.prog w K mg base 32 "turned" q_turned (spD P_turned) := ⟨_, _, m_turned, F_turned.kp, B_turned, ok_turned (P := l.prog) (w := w) (base := base) F_turned hb c_need_condition c_pairs_in c_turned_by⟩
  have all := all_gone (P := l.prog) (w := w) (base := base) F_gone m_gone B_gone hb  12
  have c_gone := all
  have c_told_by : Cal l.prog w K mg base 13 "told_by" q_told_by (spD P_told_by) := ⟨_, _, m_told_by, F_told_by.kp, B_told_by, ok_told_by (P := l.prog) (w := w) (base := base) F_told_by hb c_gone⟩
  have c_all_worths : Cal l.prog w K mg base 1 "all_worths" q_all_worths (spD P_all_worths) := ⟨_, _, m_all_worths, F_all_worths.kp, B_all_worths, ok_all_worths (P := l.prog) (w := w) (base := base) F_all_worths hb hc_THINGS⟩
  have c_need_end : Cal l.prog w K mg base 1 "need_end" q_need_end (spD P_need_end) := ⟨_, _, m_need_end, F_need_end.kp, B_need_end, ok_need_end (P := l.prog) (w := w) (base := base) F_need_end hb ⟩
  have all := all_rows_of (P := l.prog) (w := w) (base := base) F_rows_of m_rows_of B_rows_of hb c_looks_in 30
  have c_rows_of := all
  have c_code_of : Cal l.prog w K mg base 61 "code_of" q_code_of (spD P_code_of) := ⟨_, _, m_code_of, F_code_of.kp, B_code_of, ok_code_of (P := l.prog) (w := w) (base := base) F_code_of hb c_looks_in c_rows_of⟩
  have c_run_by : Cal l.prog w K mg base 1 "run_by" q_run_by (spD P_run_by) := ⟨_, _, m_run_by, F_run_by.kp, B_run_by, ok_run_by (P := l.prog) (w := w) (base := base) F_run_by hb ⟩
  have c_need_chances : Cal l.prog w K mg base 1 "need_chances" q_need_chances (spD P_need_chances) := ⟨_, _, m_need_chances, F_need_chances.kp, B_need_chances, ok_need_chances (P := l.prog) (w := w) (base := base) F_need_chances hb hc_THINGS hc_HUNDRED⟩
  have c_weights_of : Cal l.prog w K mg base 2 "weights_of" q_weights_of (spD P_weights_of) := ⟨_, _, m_weights_of, F_weights_of.kp, B_weights_of, ok_weights_of (P := l.prog) (w := w) (base := base) F_weights_of hb hc_THINGS hc_HUNDRED c_all_worths⟩
  have c_looks_by : Cal l.prog w K mg base 14 "looks_by" q_looks_by (spD P_looks_by) := ⟨_, _, m_looks_by, F_looks_by.kp, B_looks_by, ok_looks_by (P := l.prog) (w := w) (base := base) F_looks_by hb c_told_by⟩
  have c_jumps_by : Cal l.prog w K mg base 62 "jumps_by" q_jumps_by (spD P_jumps_by) := ⟨_, _, m_jumps_by, F_jumps_by.kp, B_jumps_by, ok_jumps_by (P := l.prog) (w := w) (base := base) F_jumps_by hb c_code_of c_run_by⟩
  have c_looks : Cal l.prog w K mg base 32 "looks" q_looks (spD P_looks) := ⟨_, _, m_looks, F_looks.kp, B_looks, ok_looks (P := l.prog) (w := w) (base := base) F_looks hb c_need_condition c_need_chances c_weights_of c_looks_by⟩
  have c_jumps : Cal l.prog w K mg base 63 "jumps" q_jumps (spD P_jumps) := ⟨_, _, m_jumps, F_jumps.kp, B_jumps, ok_jumps (P := l.prog) (w := w) (base := base) F_jumps hb c_need_condition c_need_end c_need_chances c_weights_of c_jumps_by⟩
  have c_all_turns : Cal l.prog w K mg base 1 "all_turns" q_all_turns (spD P_all_turns) := ⟨_, _, m_all_turns, F_all_turns.kp, B_all_turns, ok_all_turns (P := l.prog) (w := w) (base := base) F_all_turns hb ⟩
  have c_need_few : Cal l.prog w K mg base 32 "need_few" q_need_few (spD P_need_few) := ⟨_, _, m_need_few, F_need_few.kp, B_need_few, ok_need_few (P := l.prog) (w := w) (base := base) F_need_few hb hc_MOST_PAIRS c_need_condition c_need_chances c_pairs_in⟩
  have c_fewest_looks : Cal l.prog w K mg base 33 "fewest_looks" q_fewest_looks (spD P_fewest_looks) := ⟨_, _, m_fewest_looks, F_fewest_looks.kp, B_fewest_looks, ok_fewest_looks (P := l.prog) (w := w) (base := base) F_fewest_looks hb c_need_few c_weights_of c_pairs_in c_all_turns c_turned_by c_looks_by⟩
  have c_fewest_jumps : Cal l.prog w K mg base 63 "fewest_jumps" q_fewest_jumps (spD P_fewest_jumps) := ⟨_, _, m_fewest_jumps, F_fewest_jumps.kp, B_fewest_jumps, ok_fewest_jumps (P := l.prog) (w := w) (base := base) F_fewest_jumps hb c_need_few c_weights_of c_pairs_in c_all_turns c_turned_by c_jumps_by⟩
  have c_like_worth : Cal l.prog w K mg base 32 "like_worth" q_like_worth (spD P_like_worth) := ⟨_, _, m_like_worth, F_like_worth.kp, B_like_worth, ok_like_worth (P := l.prog) (w := w) (base := base) F_like_worth hb c_need_condition c_all_worths c_told_by⟩
  have c__law_begun : Cal l.prog w K mg base 1 "_law_begun" q__law_begun (spBegun K) := ⟨_, _, m__law_begun, F__law_begun.kp, B__law_begun, ok__law_begun (P := l.prog) (w := w) (base := base) F__law_begun hb ⟩
  have c__law_take : Cal l.prog w K mg base 1 "_law_take" q__law_take (spB P_take) := ⟨_, _, m__law_take, F__law_take.kp, B__law_take, ok__law_take (P := l.prog) (w := w) (base := base) F__law_take hb ⟩
  have all := all__law_part (P := l.prog) (w := w) (base := base) F__law_part m__law_part B__law_part F__law_bare m__law_bare B__law_bare hb c__law_take 24
  obtain ⟨c__law_part, c__law_bare⟩ := all
  have all := all__law_deep (P := l.prog) (w := w) (base := base) F__law_deep m__law_deep B__law_deep hb  30
  have c__law_deep := all
  have all := all__law_pairs (P := l.prog) (w := w) (base := base) F__law_pairs m__law_pairs B__law_pairs hb  30
  have c__law_pairs := all
  exact ok_law (P := l.prog) (w := w) (base := base) F_law hb c__law_begun c__law_take c__law_bare c__law_deep c__law_pairs c_fewest_looks c_fewest_jumps c_turned c_looks c_jumps c_like_worth

theorem walk {l : PySem.W.OpenLaw} {q : Program} {loose : List Str} {XP : (Str → Option Value) → Heap → Prop} {YP : World → Heap → Prop} {d : DefRec} {K : Params → PySem.W.Frag} (hn : l.most = some 63) (hdf : d.params.defaults = [])
    (hY : ∀ (w : World) (h : Heap), YP w h → (K w.params).In h)
    (F : ∀ (w : World) (mg : Str → Option Value) (fa : Addr) (h : Heap), (K w.params).In h → h.Ns mainGlobals mg → mg d.name = some (.ref fa) →
      ∃ fd : FuncData, (∀ (s : Shared) (u : Value), BindsTo s fd ⟨[u], []⟩ [("_law_script", u)]) ∧ ∀ base : Heap, (K w.params).In base → base.Ns mainGlobals mg → FnOk l.prog w (K w.params) mg base CX0 64 fa fd ["_law_script"] (spLaw (K w.params))) :
    PySem.W.WalkO q loose XP YP l.row.toRowW d [] (fun f vs => PySem.call f vs) :=
  L2.walk_of (n := 63) (k := 64) (x := "_law_script") (CX := fun _ => CX0) (sp := fun w => spLaw (K w.params)) hn (by decide) hdf ⟨rfl, by decide, by decide⟩ hY F (fun _ _ a ns hl _ hS => ⟨a, ns, rfl, hS, hl, fun _ => rfl⟩) fun _ _ _ _ _ z => z

end J
open PySem PySem.W PyProof.Rows
set_option maxRecDepth 100000 in
set_option maxHeartbeats 0 in
theorem PySem.Challenge.cw_jumpsay_k08_whole_more_pairs_holds : PySem.Challenge.rw_jumpsay_k08_whole_more_pairs.Holds := by
  w_on; o_law; k_head; (case hw => w_witness2)
  k_fill
  refine J.walk (l := PySem.Challenge.rw_jumpsay_k08_whole_more_pairs) rfl rfl (fun w h Y => PySem.W.kIn_of Y) ?F
  case F =>
    intro w mg fa h KX G hmg
    refine' J.all_mk KX G hmg ?a0 ?l0 ?c0 ?k0 ?a1 ?l1 ?c1 ?k1 ?a2 ?l2 ?c2 ?k2 ?a3 ?l3 ?c3 ?k3 ?a4 ?l4 ?c4 ?k4 ?a5 ?l5 ?c5 ?k5 ?a6 ?l6 ?c6 ?k6 ?a7 ?l7 ?c7 ?k7 ?a8 ?l8 ?c8 ?k8 ?a9 ?l9 ?c9 ?k9 ?a10 ?l10 ?c10 ?k10 ?a11 ?l11 ?c11 ?k11 ?a12 ?l12 ?c12 ?k12 ?a13 ?l13 ?c13 ?k13 ?a14 ?l14 ?c14 ?k14 ?a15 ?l15 ?c15 ?k15 ?a16 ?l16 ?c16 ?k16 ?a17 ?l17 ?c17 ?k17 ?a18 ?l18 ?c18 ?k18 ?a19 ?l19 ?c19 ?k19 ?a20 ?l20 ?c20 ?k20 ?a21 ?l21 ?c21 ?k21 ?a22 ?l22 ?c22 ?k22 ?a23 ?l23 ?c23 ?k23 ?a24 ?l24 ?c24 ?k24 ?a25 ?l25 ?c25 ?k25 ?a26 ?l26 ?c26 ?k26 ?a27 ?l27 ?c27 ?k27 ?a28 ?l28 ?c28 ?k28 ?a29 ?l29 ?c29 ?k29 ?a30 ?l30 ?c30 ?k30 ?g_MOST_WITHIN ?g_SIZES ?y1 ?y2 ?y3 ?y4 ?y5 ?y6 ?y7 ?y8 ?y9 ?y10 ?g_THINGS ?g_PAIRS ?yp ?g_MOST_LOOKS ?g_HUNDRED ?g_MOST_PAIRS ?z_range ?z_isinstance ?z_len ?z_int ?z_bool ?z_str ?z_tuple ?z_list ?z_sum ?z_max ?z_min ?z_all ?z_sorted ?z_enumerate
    (case a0 => k_is)
    (case l0 => k_is)
    (case c0 => k_is)
    (case k0 => k_is)
    (case a1 => k_is)
    (case l1 => k_is)
    (case c1 => k_is)
    (case k1 => k_is)
    (case a2 => k_is)
    (case l2 => k_is)
    (case c2 => k_is)
    (case k2 => k_is)
    (case a3 => k_is)
    (case l3 => k_is)
    (case c3 => k_is)
    (case k3 => k_is)
    (case a4 => k_is)
    (case l4 => k_is)
    (case c4 => k_is)
    (case k4 => k_is)
    (case a5 => k_is)
    (case l5 => k_is)
    (case c5 => k_is)
    (case k5 => k_is)
    (case a6 => k_is)
    (case l6 => k_is)
    (case c6 => k_is)
    (case k6 => k_is)
    (case a7 => k_is)
    (case l7 => k_is)
    (case c7 => k_is)
    (case k7 => k_is)
    (case a8 => k_is)
    (case l8 => k_is)
    (case c8 => k_is)
    (case k8 => k_is)
    (case a9 => k_is)
    (case l9 => k_is)
    (case c9 => k_is)
    (case k9 => k_is)
    (case a10 => k_is)
    (case l10 => k_is)
    (case c10 => k_is)
    (case k10 => k_is)
    (case a11 => k_is)
    (case l11 => k_is)
    (case c11 => k_is)
    (case k11 => k_is)
    (case a12 => k_is)
    (case l12 => k_is)
    (case c12 => k_is)
    (case k12 => k_is)
    (case a13 => k_is)
    (case l13 => k_is)
    (case c13 => k_is)
    (case k13 => k_is)
    (case a14 => k_is)
    (case l14 => k_is)
    (case c14 => k_is)
    (case k14 => k_is)
    (case a15 => k_is)
    (case l15 => k_is)
    (case c15 => k_is)
    (case k15 => k_is)
    (case a16 => k_is)
    (case l16 => k_is)
    (case c16 => k_is)
    (case k16 => k_is)
    (case a17 => k_is)
    (case l17 => k_is)
    (case c17 => k_is)
    (case k17 => k_is)
    (case a18 => k_is)
    (case l18 => k_is)
    (case c18 => k_is)
    (case k18 => k_is)
    (case a19 => k_is)
    (case l19 => k_is)
    (case c19 => k_is)
    (case k19 => k_is)
    (case a20 => k_is)
    (case l20 => k_is)
    (case c20 => k_is)
    (case k20 => k_is)
    (case a21 => k_is)
    (case l21 => k_is)
    (case c21 => k_is)
    (case k21 => k_is)
    (case a22 => k_is)
    (case l22 => k_is)
    (case c22 => k_is)
    (case k22 => k_is)
    (case a23 => k_is)
    (case l23 => k_is)
    (case c23 => k_is)
    (case k23 => k_is)
    (case a24 => k_is)
    (case l24 => k_is)
    (case c24 => k_is)
    (case k24 => k_is)
    (case a25 => k_is)
    (case l25 => k_is)
    (case c25 => k_is)
    (case k25 => k_is)
    (case a26 => k_is)
    (case l26 => k_is)
    (case c26 => k_is)
    (case k26 => k_is)
    (case a27 => k_is)
    (case l27 => k_is)
    (case c27 => k_is)
    (case k27 => k_is)
    (case a28 => k_is)
    (case l28 => k_is)
    (case c28 => k_is)
    (case k28 => k_is)
    (case a29 => k_is)
    (case l29 => k_is)
    (case c29 => k_is)
    (case k29 => k_is)
    (case a30 => k_is)
    (case l30 => k_is)
    (case c30 => k_is)
    (case k30 => k_is)
    (case g_MOST_WITHIN => k_is)
    (case g_SIZES => k_is)
    (case y1 => k_is)
    (case y2 => exact ⟨⟨_, _, rfl, rfl⟩, ⟨_, _, rfl, rfl⟩, ⟨_, _, rfl, rfl⟩, ⟨_, _, rfl, rfl⟩, trivial⟩)
    (case y3 => k_is)
    (case y4 => k_is)
    (case y5 => k_is)
    (case y6 => k_is)
    (case y7 => k_is)
    (case y8 => k_is)
    (case y9 => k_is)
    (case y10 => rfl)
    (case g_THINGS => k_is)
    (case g_PAIRS => k_is)
    (case yp => k_is)
    (case g_MOST_LOOKS => k_is)
    (case g_HUNDRED => k_is)
    (case g_MOST_PAIRS => k_is)
    (case z_range => k_is)
    (case z_isinstance => k_is)
    (case z_len => k_is)
    (case z_int => k_is)
    (case z_bool => k_is)
    (case z_str => k_is)
    (case z_tuple => k_is)
    (case z_list => k_is)
    (case z_sum => k_is)
    (case z_max => k_is)
    (case z_min => k_is)
    (case z_all => k_is)
    (case z_sorted => k_is)
    (case z_enumerate => k_is)
#print axioms PySem.Challenge.cw_jumpsay_k08_whole_more_pairs_holds
